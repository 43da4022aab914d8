import PyProof.Rows.All
import Wide.All
import OpenK.AllK
import Wide.FinOn
import PySem.Challenge.RW_np0092_01
set_option Elab.async false
set_option maxRecDepth 100000
set_option maxHeartbeats 8000000
set_option linter.unusedVariables false
set_option linter.unusedSimpArgs false
namespace Mine
section
open PySem PySem.W PyProof.Rows PySem.Calls
inductive PV where
  | none | bool (b : Bool) | int (k : Int) | str (s : Str) | ref (i : Nat) | tup (vs : List PV) | rng (a b : Int) | scr (ks : List Int)
  deriving Inhabited
inductive xg2 where
  | inst (c : Nat) (fs : List PV)
  | list (vs : List PV)
  | dict (es : List (Int × PV))
  | fdict (es : List (Int × PV))
  | flist (vs : List PV)
structure St where
  objs : Nat → xg2
  next : Nat
def St.set (σ : St) (i : Nat) (o : xg2) : St := ⟨fun j => if j = i then o else σ.objs j, σ.next⟩
def St.push (σ : St) (o : xg2) : St := ⟨fun j => if j = σ.next then o else σ.objs j, σ.next + 1⟩
structure Gh where
  ad : Nat → Addr × Addr
  T : Addr → Option Obj
  fz : Nat → Bool
def xtV (vals : List Value) : Obj := { cls := .type "tuple", data := .seq vals.toArray }
def xtI (a b : Int) (t u v : Tok) : Obj := { cls := .type "range", data := .fields #[.int a t, .int b u, .int 1 v] }
def xuh (o : Obj) : Prop := (∃ vals, o = xtV vals) ∨ (∃ a b t u v, o = xtI a b t u v) ∨ (o.cls = .type "list" ∧ ∃ xs n, o.data = .seq xs n)
inductive VR (W : Gh) (n : Nat) : PV → Value → Prop
  | none : VR W n .none .none
  | bool (b) : VR W n (.bool b) (.bool b)
  | int (k t) : VR W n (.int k) (.int k t)
  | str (x t) : VR W n (.str x) (.str x t)
  | ref (i) : i < n → VR W n (.ref i) (.ref (W.ad i).1)
  | tup (vs : List PV) (vals : List Value) (a : Addr) : W.T a = some (xtV vals) → vs.length = vals.length → (∀ (k : Nat) (pv : PV) (v : Value), vs[k]? = some pv → vals[k]? = some v → VR W n pv v) → VR W n (.tup vs) (.ref a)
  | rng (a b : Int) (t u v : Tok) (r : Addr) : W.T r = some (xtI a b t u v) → VR W n (.rng a b) (.ref r)
  | scr (ks : List Int) (o : Obj) (vals : List Value) (m : Nat) (r : Addr) : W.T r = some o → o.cls = .type "list" → o.data = .seq vals.toArray m → IntsAre vals ks → VR W n (.scr ks) (.ref r)
def VRs (W : Gh) (n : Nat) (vs : List PV) (vals : List Value) : Prop := vs.length = vals.length ∧ ∀ (k : Nat) (pv : PV) (v : Value), vs[k]? = some pv → vals[k]? = some v → VR W n pv v
theorem VRs.nil {W n} : VRs W n [] [] := ⟨rfl, fun k pv v h => by simp at h⟩
theorem VRs.cons {W n p v vs vals} (h : VR W n p v) (t : VRs W n vs vals) : VRs W n (p :: vs) (v :: vals) :=
  ⟨by simp [t.1], fun k pv v' h1 h2 => by
    cases k with
    | zero => simp at h1 h2; subst h1 h2; exact h
    | succ k => simp at h1 h2; exact t.2 k pv v' h1 h2⟩
theorem VRs.get {W n vs vals} (t : VRs W n vs vals) {k : Nat} {pv : PV} (h : vs[k]? = some pv) : ∃ v, vals[k]? = some v ∧ VR W n pv v := by
  have hk : k < vs.length := by
    rcases Nat.lt_or_ge k vs.length with q | q
    · exact q
    · rw [List.getElem?_eq_none q] at h; cases h
  have hk' : k < vals.length := t.1 ▸ hk
  exact ⟨vals[k], by simp [hk'], t.2 k pv _ h (by simp [hk'])⟩
def Own (W : Gh) (n : Nat) (b : Addr) : Prop := ∃ i, i < n ∧ W.fz i = false ∧ (b = (W.ad i).1 ∨ b = (W.ad i).2)
def All (W : Gh) (n : Nat) (b : Addr) : Prop := ∃ i, i < n ∧ (b = (W.ad i).1 ∨ b = (W.ad i).2)
theorem Own.all {W : Gh} {n : Nat} {b : Addr} (h : Own W n b) : All W n b := let ⟨i, hi, _, hb⟩ := h; ⟨i, hi, hb⟩
structure xfo where
  prog : Program
  w : World
  K : Frag
  h₀ : Heap
  mg : Str → Option Value
  mb : Str → Option Value
  pp : Program
  loose : List Str
  X : K.In h₀
  T : TopRead pp loose mg mb h₀
  flds : Nat → List Str
  cadr : Nat → Addr
  inj : ∀ (c k k' : Nat) (x : Str), (flds c)[k]? = some x → (flds c)[k']? = some x → k = k'
variable (S : xfo)
def xgH (W : Gh) (n : Nat) (h : Heap) (a : Addr × Addr) : xg2 → Prop
  | .inst C fs => a.1 ≠ a.2 ∧ h.get? a.1 = some (instObj (S.cadr C) a.2) ∧ ∃ m, h.Ns a.2 m ∧
      (∀ (k : Nat) (x : Str) (pv : PV), (S.flds C)[k]? = some x → fs[k]? = some pv → ∃ v, m x = some v ∧ VR W n pv v) ∧
      (∀ x : Str, (∀ k, k < fs.length → (S.flds C)[k]? ≠ some x) → m x = none) ∧ h.DictLe a.2 fs.length ∧ fs.length ≤ 100
  | .list vs => a.2 = a.1 ∧ ∃ vals, h.PlainList a.1 vals ∧ VRs W n vs vals.toList ∧ vs.length ≤ 1000
  | .flist vs => a.2 = a.1 ∧ ∃ vals, h.PlainList a.1 vals ∧ VRs W n vs vals.toList ∧ vs.length ≤ 1000
  | .dict es => a.2 = a.1 ∧ ∃ kvs, h.DictOf (intKind S.prog S.w) a.1 kvs ∧ es.map (·.1) = kvs.map (·.1) ∧ VRs W n (es.map (·.2)) (kvs.map (·.2)) ∧ es.length ≤ 1000
  | .fdict es => a.2 = a.1 ∧ ∃ kvs, h.DictOf (intKind S.prog S.w) a.1 kvs ∧ es.map (·.1) = kvs.map (·.1) ∧ VRs W n (es.map (·.2)) (kvs.map (·.2)) ∧ es.length ≤ 1000
structure Rep (W : Gh) (σ : St) (h : Heap) : Prop where
  base : ∀ b o, S.h₀.get? b = some o → h.get? b = some o
  obj : ∀ i, i < σ.next → xgH S W σ.next h (W.ad i) (σ.objs i)
  apart : ∀ i j, i < σ.next → j < σ.next → i ≠ j → (W.ad i).1 ≠ (W.ad j).1 ∧ (W.ad i).1 ≠ (W.ad j).2 ∧ (W.ad i).2 ≠ (W.ad j).2
  fresh : ∀ i, i < σ.next → S.h₀.get? (W.ad i).1 = none ∧ S.h₀.get? (W.ad i).2 = none
  above : ∀ i, i < σ.next → mainGlobals < (W.ad i).1
  frz : ∀ i, i < σ.next → W.fz i = true → (∃ es, σ.objs i = .fdict es) ∨ ∃ vs, σ.objs i = .flist vs
  tup : ∀ a o, W.T a = some o → h.get? a = some o ∧ ¬ Own W σ.next a ∧ True ∧ xuh o
structure xbu (X : Addr → Prop) (W : Gh) (n : Nat) (h : Heap) (W' : Gh) (n' : Nat) (h' : Heap) : Prop where
  nx : n ≤ n'
  ad : ∀ i, i < n → W'.ad i = W.ad i
  T : ∀ a v, W.T a = some v → W'.T a = some v
  fz : ∀ i, i < n → W.fz i = true → W'.fz i = true
  ext : ∀ b o, h.get? b = some o → ¬ Own W n b → ¬ X b → h'.get? b = some o
  dom : ∀ b o, h.get? b = some o → ∃ o', h'.get? b = some o'
  new : ∀ i, n ≤ i → i < n' → h.get? (W'.ad i).1 = none ∧ h.get? (W'.ad i).2 = none
  Tn : ∀ a, W.T a = none → (∃ o, h.get? a = some o) → W'.T a = none
def noX : Addr → Prop := fun _ => False
theorem VR.mono {W W' : Gh} {n n' : Nat} (hn : n ≤ n') (ha : ∀ i, i < n → W'.ad i = W.ad i) (hT : ∀ a v, W.T a = some v → W'.T a = some v) {p : PV} {v : Value} (h : VR W n p v) : VR W' n' p v := by
  induction h with
  | none => exact .none
  | bool b => exact .bool b
  | int k t => exact .int k t
  | str x t => exact .str x t
  | ref i hi => rw [← ha i hi]; exact .ref i (Nat.lt_of_lt_of_le hi hn)
  | tup vs vals a h1 h2 _ ih => exact .tup vs vals a (hT _ _ h1) h2 ih
  | rng a b t u v r h1 => exact .rng a b t u v r (hT _ _ h1)
  | scr ks o vals m r h1 h2 h3 h4 => exact .scr ks o vals m r (hT _ _ h1) h2 h3 h4
theorem VRs.mono {W W' : Gh} {n n' : Nat} (hn : n ≤ n') (ha : ∀ i, i < n → W'.ad i = W.ad i) (hT : ∀ a v, W.T a = some v → W'.T a = some v) {p : List PV} {v : List Value} (h : VRs W n p v) : VRs W' n' p v :=
  ⟨h.1, fun k pv v h1 h2 => (h.2 k pv v h1 h2).mono hn ha hT⟩
section
variable {X : Addr → Prop} {W W' W'' : Gh} {n n' n'' : Nat} {h h' h'' : Heap}
theorem xbu.vr (t : xbu X W n h W' n' h') {p v} (x : VR W n p v) : VR W' n' p v := x.mono t.nx t.ad t.T
theorem xbu.vrs (t : xbu X W n h W' n' h') {p v} (x : VRs W n p v) : VRs W' n' p v := x.mono t.nx t.ad t.T
theorem xbu.refl : xbu X W n h W n h := ⟨Nat.le_refl _, fun _ _ => rfl, fun _ _ e => e, fun _ _ e => e, fun _ _ e _ _ => e, fun _ o e => ⟨o, e⟩, fun _ h1 h2 => absurd h1 (Nat.not_le.mpr h2), fun _ e _ => e⟩
theorem xbu.own_back (t : xbu X W n h W' n' h') {b : Addr} {o : Obj} (e : h.get? b = some o) (x : Own W' n' b) : Own W n b := by
  obtain ⟨i, hi, hf, hb⟩ := x
  rcases Nat.lt_or_ge i n with q | q
  · rw [t.ad i q] at hb
    refine ⟨i, q, ?_, hb⟩
    cases z : W.fz i with
    | false => rfl
    | true => rw [t.fz i q z] at hf; cases hf
  · obtain ⟨a1, a2⟩ := t.new i q hi
    rcases hb with rfl | rfl
    · rw [e] at a1; cases a1
    · rw [e] at a2; cases a2
theorem xbu.all_back (t : xbu X W n h W' n' h') {b : Addr} {o : Obj} (e : h.get? b = some o) (x : All W' n' b) : All W n b := by
  obtain ⟨i, hi, hb⟩ := x
  rcases Nat.lt_or_ge i n with q | q
  · rw [t.ad i q] at hb; exact ⟨i, q, hb⟩
  · obtain ⟨a1, a2⟩ := t.new i q hi
    rcases hb with rfl | rfl
    · rw [e] at a1; cases a1
    · rw [e] at a2; cases a2
theorem xbu.comp (t : xbu X W n h W' n' h') (u : xbu X W' n' h' W'' n'' h'') : xbu X W n h W'' n'' h'' where
  nx := Nat.le_trans t.nx u.nx
  ad i hi := (u.ad i (Nat.lt_of_lt_of_le hi t.nx)).trans (t.ad i hi)
  T a v e := u.T a v (t.T a v e)
  fz i hi e := u.fz i (Nat.lt_of_lt_of_le hi t.nx) (t.fz i hi e)
  ext b o e n1 n2 := u.ext b o (t.ext b o e n1 n2) (fun q => n1 (t.own_back e q)) n2
  dom b o e := let ⟨_, e'⟩ := t.dom b o e; u.dom b _ e'
  Tn a e h := let ⟨o, e'⟩ := h; let ⟨o', e''⟩ := t.dom a o e'; u.Tn a (t.Tn a e ⟨o, e'⟩) ⟨o', e''⟩
  new i h1 h2 := by
    rcases Nat.lt_or_ge i n' with q | q
    · rw [u.ad i q]; exact t.new i h1 q
    · obtain ⟨a, b⟩ := u.new i q h2
      refine ⟨?_, ?_⟩
      · cases e : h.get? (W''.ad i).1 with
        | none => rfl
        | some o => obtain ⟨o', e'⟩ := t.dom _ _ e; rw [e'] at a; cases a
      · cases e : h.get? (W''.ad i).2 with
        | none => rfl
        | some o => obtain ⟨o', e'⟩ := t.dom _ _ e; rw [e'] at b; cases b
theorem xbu.weaken {Y : Addr → Prop} (t : xbu X W n h W' n' h') (hY : ∀ b, X b → Y b) : xbu Y W n h W' n' h' :=
  ⟨t.nx, t.ad, t.T, t.fz, fun b o e n1 n2 => t.ext b o e n1 fun z => n2 (hY b z), t.dom, t.new, t.Tn⟩
end
section
variable {S}
theorem xgH.mono {W W' : Gh} {n n' : Nat} {h h' : Heap} {a : Addr × Addr} {o : xg2} (x : xgH S W n h a o) (hn : n ≤ n') (ha : ∀ i, i < n → W'.ad i = W.ad i) (hT : ∀ a v, W.T a = some v → W'.T a = some v)
    (k1 : ∀ o, h.get? a.1 = some o → h'.get? a.1 = some o) (k2 : ∀ o, h.get? a.2 = some o → h'.get? a.2 = some o) : xgH S W' n' h' a o := by
  cases o with
  | inst C fs =>
    obtain ⟨h1, h2, m, hm, hf, hg, hz, hl⟩ := x
    obtain ⟨o, _, _, ho, _⟩ := id hm
    exact ⟨h1, k1 _ h2, m, hm.at' k2, fun k x pv e1 e2 => let ⟨v, e, hv⟩ := hf k x pv e1 e2; ⟨v, e, hv.mono hn ha hT⟩, hg, hz.of_same ho (k2 _ ho), hl⟩
  | list vs =>
    obtain ⟨h0, vals, h1, h2, h3⟩ := x
    exact ⟨h0, vals, h1.at k1, h2.mono hn ha hT, h3⟩
  | flist vs =>
    obtain ⟨h0, vals, h1, h2, h3⟩ := x
    exact ⟨h0, vals, h1.at k1, h2.mono hn ha hT, h3⟩
  | dict es =>
    obtain ⟨h0, kvs, h1, h2, h3, h4⟩ := x
    exact ⟨h0, kvs, h1.at k1, h2, h3.mono hn ha hT, h4⟩
  | fdict es =>
    obtain ⟨h0, kvs, h1, h2, h3, h4⟩ := x
    exact ⟨h0, kvs, h1.at k1, h2, h3.mono hn ha hT, h4⟩
theorem xgH.some1 {W : Gh} {n : Nat} {h : Heap} {a : Addr × Addr} {o : xg2} (x : xgH S W n h a o) : ∃ o, h.get? a.1 = some o := by
  cases o with
  | inst C fs => exact ⟨_, x.2.1⟩
  | list vs => obtain ⟨_, _, ⟨_, e⟩, _⟩ := x; exact ⟨_, e⟩
  | flist vs => obtain ⟨_, _, ⟨_, e⟩, _⟩ := x; exact ⟨_, e⟩
  | dict es => obtain ⟨_, _, ⟨o, _, _, e, _⟩, _⟩ := x; exact ⟨_, e⟩
  | fdict es => obtain ⟨_, _, ⟨o, _, _, e, _⟩, _⟩ := x; exact ⟨_, e⟩
theorem xgH.some2 {W : Gh} {n : Nat} {h : Heap} {a : Addr × Addr} {o : xg2} (x : xgH S W n h a o) : ∃ o, h.get? a.2 = some o := by
  cases o with
  | inst C fs => obtain ⟨_, _, _, ⟨o, _, _, e, _⟩, _⟩ := x; exact ⟨_, e⟩
  | list vs => obtain ⟨q, _, ⟨_, e⟩, _⟩ := x; exact ⟨_, q ▸ e⟩
  | flist vs => obtain ⟨q, _, ⟨_, e⟩, _⟩ := x; exact ⟨_, q ▸ e⟩
  | dict es => obtain ⟨q, _, ⟨o, _, _, e, _⟩, _⟩ := x; exact ⟨_, q ▸ e⟩
  | fdict es => obtain ⟨q, _, ⟨o, _, _, e, _⟩, _⟩ := x; exact ⟨_, q ▸ e⟩
variable {W : Gh} {σ : St} {h h' : Heap}
theorem Rep.ownSome (R : Rep S W σ h) {b : Addr} (x : Own W σ.next b) : ∃ o, h.get? b = some o := by
  obtain ⟨i, hi, _, rfl | rfl⟩ := x
  · exact (R.obj i hi).some1
  · exact (R.obj i hi).some2
theorem Rep.allSome (R : Rep S W σ h) {b : Addr} (x : All W σ.next b) : ∃ o, h.get? b = some o := by
  obtain ⟨i, hi, rfl | rfl⟩ := x
  · exact (R.obj i hi).some1
  · exact (R.obj i hi).some2
theorem Rep.keep (R : Rep S W σ h) (hk : ∀ b o, h.get? b = some o → h'.get? b = some o) : Rep S W σ h' ∧ xbu noX W σ.next h W σ.next h' :=
  ⟨⟨fun b o e => hk b o (R.base b o e), fun i hi => (R.obj i hi).mono (Nat.le_refl _) (fun _ _ => rfl) (fun _ _ e => e) (fun o e => hk _ o e) (fun o e => hk _ o e), R.apart, R.fresh, R.above, R.frz,
    fun a vs e => ⟨hk _ _ (R.tup a vs e).1, (R.tup a vs e).2⟩⟩,
   ⟨Nat.le_refl _, fun _ _ => rfl, fun _ _ e => e, fun _ _ e => e, fun b o e _ _ => hk b o e, fun b o e => ⟨o, hk b o e⟩, fun i h1 h2 => absurd h1 (Nat.not_le.mpr h2), fun _ e _ => e⟩⟩
theorem IsTup.at' {h h' : Heap} {a items} (x : IsTup h a items) (hk : ∀ o, h.get? a = some o → h'.get? a = some o) : IsTup h' a items := let ⟨o, ho, r⟩ := x; ⟨o, hk o ho, r⟩
theorem Rep.upd (R : Rep S W σ h) {i : Nat} (hi : i < σ.next) (hfz : W.fz i = false) {o' : xg2} {a : Addr} (ha : a = (W.ad i).1 ∨ a = (W.ad i).2)
    (hs : ∀ b o, b ≠ a → h.get? b = some o → h'.get? b = some o) (hd : ∃ o, h'.get? a = some o) (ho : xgH S W σ.next h' (W.ad i) o') :
    Rep S W (σ.set i o') h' ∧ xbu noX W σ.next h W σ.next h' := by
  have hown : Own W σ.next a := ⟨i, hi, hfz, ha⟩
  have hbase : S.h₀.get? a = none := by rcases ha with rfl | rfl; exact (R.fresh i hi).1; exact (R.fresh i hi).2
  refine ⟨⟨fun b o e => hs b o (fun q => by rw [← q, e] at hbase; cases hbase) (R.base b o e), fun j hj => ?_, R.apart, R.fresh, R.above, fun j hj hf => ?_, fun b vs e => ?_⟩,
    ⟨Nat.le_refl _, fun _ _ => rfl, fun _ _ e => e, fun _ _ e => e, fun b o e n1 _ => hs b o (fun q => n1 (q ▸ hown)) e, fun b o e => ?_, fun i h1 h2 => absurd h1 (Nat.not_le.mpr h2), fun _ e _ => e⟩⟩
  · show xgH S W σ.next h' (W.ad j) (if j = i then o' else σ.objs j)
    by_cases q : j = i
    · subst q; rw [if_pos rfl]; exact ho
    · rw [if_neg q]
      have P := R.apart j i hj hi q
      have P' := R.apart i j hi hj (Ne.symm q)
      refine (R.obj j hj).mono (Nat.le_refl _) (fun _ _ => rfl) (fun _ _ e => e) (fun o e => hs _ o (fun z => ?_) e) (fun o e => hs _ o (fun z => ?_) e)
      · rcases ha with rfl | rfl
        · exact P.1 z
        · exact P.2.1 z
      · rcases ha with rfl | rfl
        · exact P'.2.1 z.symm
        · exact P.2.2 z
  · show (∃ es, (if j = i then o' else σ.objs j) = _) ∨ ∃ vs, (if j = i then o' else σ.objs j) = _
    rw [if_neg (fun q => by rw [q, hfz] at hf; cases hf)]; exact R.frz j hj hf
  · have := R.tup b vs e
    exact ⟨hs b _ (fun q => this.2.1 (q ▸ hown)) this.1, this.2⟩
  · by_cases q : b = a
    · rw [q]; exact hd
    · exact ⟨o, hs b o q e⟩
def Gh.add (W : Gh) (n : Nat) (p : Addr × Addr) : Gh := { W with ad := fun j => if j = n then p else W.ad j, fz := fun j => if j = n then false else W.fz j }
theorem Rep.alloc (R : Rep S W σ h) (hk : ∀ b o, h.get? b = some o → h'.get? b = some o) {p : Addr × Addr} {o' : xg2} (z1 : h.objs.size ≤ p.1) (z2 : h.objs.size ≤ p.2)
    (ho : xgH S (W.add σ.next p) (σ.next + 1) h' p o') :
    Rep S (W.add σ.next p) (σ.push o') h' ∧ xbu noX W σ.next h (W.add σ.next p) (σ.next + 1) h' := by
  have n1 : h.get? p.1 = none := Heap.get?_none_of_le z1
  have n2 : h.get? p.2 = none := Heap.get?_none_of_le z2
  have hbig : mainGlobals < h.objs.size := (S.T.g.keeps R.base).lt
  have had : ∀ j, j < σ.next → (W.add σ.next p).ad j = W.ad j := fun j hj => if_neg (Nat.ne_of_lt hj)
  have hfz : ∀ j, j < σ.next → (W.add σ.next p).fz j = W.fz j := fun j hj => if_neg (Nat.ne_of_lt hj)
  have hown : ∀ b, Own (W.add σ.next p) (σ.next + 1) b → Own W σ.next b ∨ b = p.1 ∨ b = p.2 := by
    rintro b ⟨j, hj, hf, hb⟩
    by_cases q : j = σ.next
    · subst q
      have e : (W.add σ.next p).ad σ.next = p := if_pos rfl
      rw [e] at hb; exact .inr hb
    · have : j < σ.next := by omega
      rw [had j this] at hb
      rw [hfz j this] at hf
      exact .inl ⟨j, this, hf, hb⟩
  have ne : ∀ b o, h.get? b = some o → b ≠ p.1 ∧ b ≠ p.2 := fun b o e => ⟨(fun q => by rw [q, n1] at e; cases e), (fun q => by rw [q, n2] at e; cases e)⟩
  refine ⟨⟨fun b o e => hk b o (R.base b o e), fun j hj => ?_, fun i j hi hj hij => ?_, fun j hj => ?_, fun j hj => ?_, fun j hj hf => ?_, fun a vs e => ?_⟩,
    ⟨Nat.le_succ _, had, fun _ _ e => e, fun j hj e => (hfz j hj).trans e, fun b o e _ _ => hk b o e, fun b o e => ⟨o, hk b o e⟩, fun i h1 h2 => ?_, fun _ e _ => e⟩⟩
  · show xgH S _ (σ.next + 1) h' _ (if j = σ.next then o' else σ.objs j)
    by_cases q : j = σ.next
    · subst q
      have e : (W.add σ.next p).ad σ.next = p := if_pos rfl
      rw [if_pos rfl, e]; exact ho
    · have hj' : j < σ.next := by have : j < σ.next + 1 := hj; omega
      rw [if_neg q, had j hj']
      exact (R.obj j hj').mono (Nat.le_succ _) had (fun _ _ e => e) (fun o e => hk _ o e) (fun o e => hk _ o e)
  · have hi' : i < σ.next + 1 := hi
    have hj' : j < σ.next + 1 := hj
    have old : ∀ k, k < σ.next → ((W.ad k).1 ≠ p.1 ∧ (W.ad k).1 ≠ p.2) ∧ ((W.ad k).2 ≠ p.1 ∧ (W.ad k).2 ≠ p.2) := fun k hk' =>
      ⟨let ⟨o, e⟩ := (R.obj k hk').some1; ne _ o e, let ⟨o, e⟩ := (R.obj k hk').some2; ne _ o e⟩
    have e : (W.add σ.next p).ad σ.next = p := if_pos rfl
    by_cases q1 : i = σ.next
    · by_cases q2 : j = σ.next
      · exact absurd (q1.trans q2.symm) hij
      · have hj2 : j < σ.next := by omega
        rw [q1, e, had j hj2]
        have := old j hj2
        exact ⟨this.1.1.symm, this.2.1.symm, this.2.2.symm⟩
    · have hi2 : i < σ.next := by omega
      by_cases q2 : j = σ.next
      · rw [q2, e, had i hi2]
        have := old i hi2
        exact ⟨this.1.1, this.1.2, this.2.2⟩
      · have hj2 : j < σ.next := by omega
        rw [had i hi2, had j hj2]
        exact R.apart i j hi2 hj2 hij
  · have nb : ∀ b, h.get? b = none → S.h₀.get? b = none := fun b e => by
      cases q : S.h₀.get? b with
      | none => rfl
      | some o => rw [R.base b o q] at e; cases e
    by_cases q : j = σ.next
    · subst q
      have e : (W.add σ.next p).ad σ.next = p := if_pos rfl
      rw [e]; exact ⟨nb _ n1, nb _ n2⟩
    · have hj' : j < σ.next := by have : j < σ.next + 1 := hj; omega
      rw [had j hj']; exact R.fresh j hj'
  · by_cases q : j = σ.next
    · subst q
      have e : (W.add σ.next p).ad σ.next = p := if_pos rfl
      rw [e]; exact Nat.lt_of_lt_of_le hbig z1
    · have hj' : j < σ.next := by have : j < σ.next + 1 := hj; omega
      rw [had j hj']; exact R.above j hj'
  · by_cases q : j = σ.next
    · subst q
      have e : (W.add σ.next p).fz σ.next = false := if_pos rfl
      rw [e] at hf; cases hf
    · have hj' : j < σ.next := by have : j < σ.next + 1 := hj; omega
      rw [hfz j hj'] at hf
      show (∃ es, (if j = σ.next then o' else σ.objs j) = _) ∨ ∃ vs, (if j = σ.next then o' else σ.objs j) = _
      rw [if_neg q]; exact R.frz j hj' hf
  · have t := R.tup a vs e
    refine ⟨hk _ _ t.1, fun q => ?_, t.2.2⟩
    have e' := t.1
    rcases hown a q with z | z | z
    · exact t.2.1 z
    · exact (ne a _ e').1 z
    · exact (ne a _ e').2 z
  · have : i = σ.next := by omega
    subst this
    have e : (W.add σ.next p).ad σ.next = p := if_pos rfl
    rw [e]; exact ⟨n1, n2⟩
def Gh.tup (W : Gh) (a : Addr) (o : Obj) : Gh := { W with T := fun b => if b = a then some o else W.T b }
theorem Rep.tuple (R : Rep S W σ h) (hk : ∀ b o, h.get? b = some o → h'.get? b = some o) {a : Addr} {o : Obj} (n1 : h.get? a = none) (ht : h'.get? a = some o) (hi : xuh o) :
    Rep S (W.tup a o) σ h' ∧ xbu noX W σ.next h (W.tup a o) σ.next h' := by
  have ne : ∀ b vs, W.T b = some vs → b ≠ a := fun b vs e q => by
    have e' := (R.tup b vs e).1
    rw [q, n1] at e'; cases e'
  have hT : ∀ b vs, W.T b = some vs → (W.tup a o).T b = some vs := fun b vs e => by show (if b = a then _ else _) = _; rw [if_neg (ne b vs e)]; exact e
  refine ⟨⟨fun b o e => hk b o (R.base b o e), fun i hi => (R.obj i hi).mono (Nat.le_refl _) (fun _ _ => rfl) hT (fun o e => hk _ o e) (fun o e => hk _ o e), R.apart, R.fresh, R.above, R.frz, fun b vs e => ?_⟩,
    ⟨Nat.le_refl _, fun _ _ => rfl, hT, fun _ _ e => e, fun b o e _ _ => hk b o e, fun b o e => ⟨o, hk b o e⟩, fun i h1 h2 => absurd h1 (Nat.not_le.mpr h2), fun b e ⟨o', e'⟩ => by
      show (if b = a then _ else _) = _
      rw [if_neg (fun q => by rw [q, n1] at e'; cases e')]; exact e⟩⟩
  have e' : (if b = a then some o else W.T b) = some vs := e
  by_cases q : b = a
  · subst q
    rw [if_pos rfl] at e'
    cases e'
    refine ⟨ht, fun q => ?_, trivial, hi⟩
    obtain ⟨o, e⟩ := R.ownSome q
    rw [n1] at e; cases e
  · rw [if_neg q] at e'
    have t := R.tup b vs e'
    exact ⟨hk _ _ t.1, t.2⟩
theorem Rep.store (R : Rep S W σ h) {L : Addr} (hL : ¬ All W σ.next L) (h0 : S.h₀.get? L = none) (hT : W.T L = none)
    (hs : ∀ b o, b ≠ L → h.get? b = some o → h'.get? b = some o) (hd : ∃ o, h'.get? L = some o) : Rep S W σ h' ∧ xbu (· = L) W σ.next h W σ.next h' := by
  refine ⟨⟨fun b o e => hs b o (fun q => by rw [q, h0] at e; cases e) (R.base b o e), fun j hj => ?_, R.apart, R.fresh, R.above, R.frz, fun b vs e => ?_⟩,
    ⟨Nat.le_refl _, fun _ _ => rfl, fun _ _ e => e, fun _ _ e => e, fun b o e _ n2 => hs b o n2 e, fun b o e => ?_, fun i h1 h2 => absurd h1 (Nat.not_le.mpr h2), fun _ e _ => e⟩⟩
  · exact (R.obj j hj).mono (Nat.le_refl _) (fun _ _ => rfl) (fun _ _ e => e) (fun o e => hs _ o (fun q => hL ⟨j, hj, .inl q.symm⟩) e) (fun o e => hs _ o (fun q => hL ⟨j, hj, .inr q.symm⟩) e)
  · have := R.tup b vs e
    exact ⟨hs b _ (fun q => by rw [q, hT] at e; cases e) this.1, this.2⟩
  · by_cases q : b = L
    · rw [q]; exact hd
    · exact ⟨o, hs b o q e⟩
end
end
section
open PySem PySem.W PyProof.Rows PySem.Calls
variable (S : xfo)
structure Frm (env : Env) (W : Gh) (n : Nat) (h : Heap) : Prop where
  kind : env.scope.kind = .function
  glob : env.globals = mainGlobals
  bltn : env.builtins = builtinsNs
  ns : ∃ m, h.Ns env.locals m
  own : ¬ All W n env.locals
  base : S.h₀.get? env.locals = none
  cell : ∀ x c, env.cells.lookup x = some c → (∃ v, h.IsCell c v) ∧ ¬ All W n c ∧ S.h₀.get? c = none
  apart : ∀ x y c, env.cells.lookup x = some c → env.cells.lookup y = some c → x = y
def xt4 (env : Env) (h : Heap) (x : Str) (v : Value) : Prop :=
  (env.kindOf x = some .local ∧ ∃ m, h.Ns env.locals m ∧ m x = some v) ∨
  ((env.kindOf x = some .cell ∨ env.kindOf x = some .free) ∧ ∃ c, env.cells.lookup x = some c ∧ h.IsCell c (some v))
abbrev xa6 := List (Option PV)
abbrev M (α : Type) := St → Option (α × St)
def bnd {α β : Type} (m : Option (α × St)) (f : α → St → Option (β × St)) : Option (β × St) := match m with
  | some (a, σ) => f a σ
  | none => none
theorem xah {α β : Type} {m : Option (α × St)} {f : α → St → Option (β × St)} {r : β × St} (h : bnd m f = some r) : ∃ a σ, m = some (a, σ) ∧ f a σ = some r := by
  unfold bnd at h
  split at h
  · exact ⟨_, _, rfl, h⟩
  · cases h
def xdH (x : Str) : Bool := x == ("__debug__" : Str) || x == ("__classdict__" : Str)
def xi9 (env : Env) (W : Gh) (n : Nat) (h : Heap) (ns : List Str) (fr : xa6) : Prop :=
  ∀ (k : Nat) (x : Str) (pv : PV), ns[k]? = some x → fr[k]? = some (some pv) → ∃ v, VR W n pv v ∧ xt4 env h x v
structure Gn where
  glob : List Str
  cell : List Str
structure GL (g : Gn) (env : Env) : Prop where
  glob : ∀ x, x ∈ g.glob → env.kindOf x = some .globalImplicit
  cell : ∀ x, x ∈ g.cell → env.kindOf x = some .cell ∧ ∃ c, env.cells.lookup x = some c
structure xhK (d : Nat) (A : Around) : Prop where
  handled : A.handled = none
  depth : A.depth + d < 690
  units : A.units + 8 * d + 100 < 9900
theorem xhK.le {d d' : Nat} {A : Around} (r : xhK d A) (h : d' ≤ d) : xhK d' A := ⟨r.handled, by have := r.depth; omega, by have := r.units; omega⟩
def xhI (W : Gh) (n : Nat) (s : Shared) (pv : PV) (σ' : St) (Q : Value → Shared → Prop) : Prop :=
  ∀ W' v h' tk, Rep S W' σ' h' → xbu noX W n s.heap W' σ'.next h' → VR W' σ'.next pv v → Q v { s with heap := h', toks := tk }
def xoo (W : Gh) (n : Nat) (s : Shared) (pv : List PV) (σ' : St) (Q : List Value → Shared → Prop) : Prop :=
  ∀ W' v h' tk, Rep S W' σ' h' → xbu noX W n s.heap W' σ'.next h' → VRs W' σ'.next pv v → Q v { s with heap := h', toks := tk }
def xmz (W : Gh) (n : Nat) (s : Shared) (b : Bool) (σ' : St) (Q : Bool → Shared → Prop) : Prop :=
  ∀ W' h' tk, Rep S W' σ' h' → xbu noX W n s.heap W' σ'.next h' → Q b { s with heap := h', toks := tk }
def SE (d : Nat) (g : Gn) (ns : List Str) (e : Expr) (m : xa6 → M PV) : Prop :=
  ∀ (A : Around) (env : Env) (W : Gh) (fr : xa6) (σ : St) (s : Shared) (Q : Value → Shared → Prop) (E : Value → Shared → Prop) (pv : PV) (σ' : St),
    xhK d A → GL g env → Rep S W σ s.heap → Frm S env W σ.next s.heap → xi9 env W σ.next s.heap ns fr → m fr σ = some (pv, σ') → xhI S W σ.next s pv σ' Q →
    wpAny (model S.prog S.w) A (eval e env) Q E s
def ST (d : Nat) (g : Gn) (ns : List Str) (e : Expr) (m : xa6 → M Bool) : Prop :=
  ∀ (A : Around) (env : Env) (W : Gh) (fr : xa6) (σ : St) (s : Shared) (Q : Bool → Shared → Prop) (E : Value → Shared → Prop) (b : Bool) (σ' : St),
    xhK d A → GL g env → Rep S W σ s.heap → Frm S env W σ.next s.heap → xi9 env W σ.next s.heap ns fr → m fr σ = some (b, σ') → xmz S W σ.next s b σ' Q →
    wpAny (model S.prog S.w) A (isTrue e env (eval e env)) Q E s
def SEs (d : Nat) (g : Gn) (ns : List Str) (es : List Expr) (m : xa6 → M (List PV)) : Prop :=
  ∀ (A : Around) (env : Env) (W : Gh) (fr : xa6) (σ : St) (s : Shared) (Q : List Value → Shared → Prop) (E : Value → Shared → Prop) (pv : List PV) (σ' : St) (pos : Pos),
    xhK d A → GL g env → Rep S W σ s.heap → Frm S env W σ.next s.heap → xi9 env W σ.next s.heap ns fr → m fr σ = some (pv, σ') → xoo S W σ.next s pv σ' Q →
    wpAny (model S.prog S.w) A (spliced (backTo pos (starEach es env))) Q E s
section
variable {S}
theorem xhI.next {W W1 : Gh} {n n1 : Nat} {s : Shared} {pv : PV} {σ' : St} {Q : Value → Shared → Prop} (P : xhI S W n s pv σ' Q) {h1 : Heap} {tk : Nat} (t : xbu noX W n s.heap W1 n1 h1) :
    xhI S W1 n1 { s with heap := h1, toks := tk } pv σ' Q := fun W' v h' tk R t' x => P W' v h' tk R (t.comp t') x
theorem xoo.next {W W1 : Gh} {n n1 : Nat} {s : Shared} {pv : List PV} {σ' : St} {Q : List Value → Shared → Prop} (P : xoo S W n s pv σ' Q) {h1 : Heap} {tk : Nat} (t : xbu noX W n s.heap W1 n1 h1) :
    xoo S W1 n1 { s with heap := h1, toks := tk } pv σ' Q := fun W' v h' tk R t' x => P W' v h' tk R (t.comp t') x
theorem xmz.next {W W1 : Gh} {n n1 : Nat} {s : Shared} {pv : Bool} {σ' : St} {Q : Bool → Shared → Prop} (P : xmz S W n s pv σ' Q) {h1 : Heap} {tk : Nat} (t : xbu noX W n s.heap W1 n1 h1) :
    xmz S W1 n1 { s with heap := h1, toks := tk } pv σ' Q := fun W' h' tk R t' => P W' h' tk R (t.comp t')
theorem xhI.here {W : Gh} {σ : St} {s : Shared} {pv : PV} {Q : Value → Shared → Prop} (P : xhI S W σ.next s pv σ Q) (R : Rep S W σ s.heap) {v : Value} (x : VR W σ.next pv v) (tk : Nat) : Q v { s with toks := tk } :=
  P W v s.heap tk R .refl x
theorem xmz.here {W : Gh} {σ : St} {s : Shared} {pv : Bool} {Q : Bool → Shared → Prop} (P : xmz S W σ.next s pv σ Q) (R : Rep S W σ s.heap) (tk : Nat) : Q pv { s with toks := tk } :=
  P W s.heap tk R .refl
theorem Heap.IsCell.at' {h h' : Heap} {c : Addr} {v : Option Value} (x : h.IsCell c v) (e : ∀ o, h.get? c = some o → h'.get? c = some o) : h'.IsCell c v := let ⟨o, ho, hd⟩ := x; ⟨o, e o ho, hd⟩
theorem Frm.trans {env : Env} {W W' : Gh} {n n' : Nat} {h h' : Heap} (F : Frm S env W n h) (t : xbu noX W n h W' n' h') : Frm S env W' n' h' := by
  obtain ⟨m, hm⟩ := F.ns
  obtain ⟨o, _, _, ho, _⟩ := id hm
  refine ⟨F.kind, F.glob, F.bltn, ⟨m, hm.at' fun o e => t.ext _ o e (fun q => F.own q.all) (fun q => q)⟩, fun q => F.own (t.all_back ho q), F.base, fun x c e => ?_, F.apart⟩
  obtain ⟨⟨v, hv⟩, n1, n2⟩ := F.cell x c e
  obtain ⟨o', ho', _⟩ := id hv
  exact ⟨⟨v, Heap.IsCell.at' hv fun o e => t.ext _ o e (fun q => n1 q.all) (fun q => q)⟩, fun q => n1 (t.all_back ho' q), n2⟩
theorem xi9.trans {env : Env} {W W' : Gh} {n n' : Nat} {h h' : Heap} {ns : List Str} {fr : xa6} (V : xi9 env W n h ns fr) (F : Frm S env W n h) (t : xbu noX W n h W' n' h') : xi9 env W' n' h' ns fr := by
  intro k x pv h1 h2
  obtain ⟨v, hv, hh⟩ := V k x pv h1 h2
  refine ⟨v, t.vr hv, ?_⟩
  rcases hh with ⟨a, m, b, c⟩ | ⟨a, c, b, d⟩
  · exact .inl ⟨a, m, b.at' fun o e => t.ext _ o e (fun q => F.own q.all) (fun q => q), c⟩
  · exact .inr ⟨a, c, b, Heap.IsCell.at' d fun o e => t.ext _ o e (fun q => (F.cell x c b).2.1 q.all) (fun q => q)⟩
end
variable {S}
variable {d : Nat} {g : Gn} {ns : List Str}
def xaW : xa6 → M PV := fun _ σ => some (.none, σ)
def xch (b : Bool) : xa6 → M PV := fun _ σ => some (.bool b, σ)
def xaK (k : Int) : xa6 → M PV := fun _ σ => some (.int k, σ)
def xsN (x : Str) : xa6 → M PV := fun _ σ => some (.str x, σ)
def xa3 (k : Nat) : xa6 → M PV := fun fr σ => match fr[k]? with
  | some (some v) => some (v, σ)
  | _ => none
theorem xb4 {k p} : SE S d g ns (.Constant .none k p) xaW := by
  intro A env W fr σ s Q E pv σ' r gl R F V e P
  cases e
  show wpAny _ _ (pure Value.none) _ _ _
  exact wpAny_pure (P.here R .none s.toks)
theorem xbZ {b k p} : SE S d g ns (.Constant (.bool b) k p) (xch b) := by
  intro A env W fr σ s Q E pv σ' r gl R F V e P
  cases e
  show wpAny _ _ (pure (Value.bool b)) _ _ _
  exact wpAny_pure (P.here R (.bool b) s.toks)
theorem xaH {i k p} : SE S d g ns (.Constant (.int i) k p) (xaK i) := by
  intro A env W fr σ s Q E pv σ' r gl R F V e P
  cases e
  exact wpAny_Constant_int (P.here R (.int i _) _)
theorem xmm {x k p} : SE S d g ns (.Constant (.str x) k p) (xsN x) := by
  intro A env W fr σ s Q E pv σ' r gl R F V e P
  cases e
  exact Constant_str (P.here R (.str x _) _)
theorem xsy {A : Around} {env : Env} {s : Shared} {Q : Value → Shared → Prop} {E : Value → Shared → Prop} {x : Str} {p : Pos} {v : Value} {M : Model} (hk : env.scope.kind = .function) (hb : xdH x = false) (hh : xt4 env s.heap x v) (q : Q v s) :
    wpAny M A (eval (.Name x p) env) Q E s := by
  unfold xdH at hb
  rw [Bool.or_eq_false_iff] at hb
  rcases hh with ⟨a, m, b, c⟩ | ⟨a | a, c, b, e⟩
  · exact wpAny_Name (wpAny_loadName_local hk a b c q) hb.1
  · exact wpAny_Name (wpAny_loadName_cell hk a b e q) hb.1
  · exact wpAny_Name (wpAny_loadName_free hk a b e q hb.2) hb.1
theorem xa0 {x : Str} {p : Pos} (k : Nat) (hx : ns[k]? = some x := by rfl) (hb : xdH x = false := by decide +kernel) : SE S d g ns (.Name x p) (xa3 k) := by
  intro A env W fr σ s Q E pv σ' r gl R F V e P
  unfold xa3 at e
  split at e
  · rename_i v hv
    cases e
    obtain ⟨v', hv', hh⟩ := V k x _ hx hv
    exact xsy F.kind hb hh (P.here R hv' s.toks)
  · cases e
def xsp (S : xfo) (d : Nat) (op : Operator) (f : PV → PV → M PV) : Prop :=
  ∀ (A : Around) (W : Gh) (σ : St) (s : Shared) (Q : Value → Shared → Prop) (E : Value → Shared → Prop) (x y : PV) (vx vy : Value) (pv : PV) (σ' : St),
    xhK d A → Rep S W σ s.heap → VR W σ.next x vx → VR W σ.next y vy → f x y σ = some (pv, σ') → xhI S W σ.next s pv σ' Q → wpAny (model S.prog S.w) A (binaryOp op vx vy) Q E s
def xbG (f : PV → PV → M PV) (a b : xa6 → M PV) : xa6 → M PV := fun fr σ => bnd (a fr σ) fun x σ1 => bnd (b fr σ1) fun y σ2 => f x y σ2
theorem xbS {op f l r p a b} (ho : xsp S d op f) (ha : SE S d g ns l a) (hb : SE S d g ns r b) : SE S d g ns (.BinOp l op r p) (xbG f a b) := by
  intro A env W fr σ s Q E pv σ' rm gl R F V e P
  obtain ⟨x, σ1, e1, e⟩ := xah e
  obtain ⟨y, σ2, e2, e⟩ := xah e
  refine wpAny_BinOp (ha A env W fr σ s _ E x σ1 rm gl R F V e1 fun W1 vx h1 tk1 R1 t1 x1 => ?_)
  refine hb A env W1 fr σ1 _ _ E y σ2 rm gl R1 (F.trans t1) (V.trans F t1) e2 fun W2 vy h2 tk2 R2 t2 y2 => ?_
  exact ho A W2 σ2 _ Q E x y vx vy pv σ' rm R2 (t2.vr x1) y2 e ((P.next t1).next t2)
def xda : PV → PV → M PV := fun x y σ => match x, y with | .int a, .int b => some (.int (a + b), σ) | _, _ => none
theorem xdt : xsp S d .Add xda := by
  intro A W σ s Q E x y vx vy pv σ' r R hx hy e P
  unfold xda at e
  split at e
  · cases e; cases hx; cases hy; exact add_int (P.here R (.int _ _) _)
  · cases e
def xhc : PV → PV → M PV := fun x y σ => match x, y with | .int a, .int b => some (.int (a - b), σ) | _, _ => none
theorem xhx : xsp S d .Sub xhc := by
  intro A W σ s Q E x y vx vy pv σ' r R hx hy e P
  unfold xhc at e
  split at e
  · cases e; cases hx; cases hy; exact sub_int (P.here R (.int _ _) _)
  · cases e
end
section
open PySem PySem.W PyProof.Rows PySem.Calls
variable {S : xfo}
variable {d : Nat} {g : Gn} {ns : List Str}
def xl2 : PV → PV → M PV := fun x y σ => match x, y with
  | .int a, .int b => if b.natAbs < 4096 ∧ a.natAbs < 1073741824 then some (.int (a * b), σ) else none
  | _, _ => none
theorem xkS {a : Int} (h : a.natAbs < 1073741824) : Builtin.Int.intBits a ≤ 64 := by
  unfold Builtin.Int.intBits
  split
  · omega
  · rename_i h0
    have h0' : a.natAbs ≠ 0 := by simpa using h0
    have := (Nat.log2_lt h0').mpr (Nat.lt_of_lt_of_le h (show (1073741824 : Nat) ≤ 2 ^ 30 by decide))
    omega
theorem xoK : xsp S d .Mult xl2 := by
  intro A W σ s Q E x y vx vy pv σ' r R hx hy e P
  unfold xl2 at e
  split at e
  · split at e
    · rename_i hc
      cases e; cases hx; cases hy; exact mul_int (P.here R (.int _ _) _) (.of_left (xkS hc.2))
    · cases e
  · cases e
def xtH : PV → PV → M PV := fun x y σ => match x, y with
  | .int a, .int b => if b ≠ 0 ∧ b.natAbs < 1073741824 then some (.int (a.fdiv b), σ) else none
  | _, _ => none
theorem xtc : xsp S d .FloorDiv xtH := by
  intro A W σ s Q E x y vx vy pv σ' r R hx hy e P
  unfold xtH at e
  split at e
  · split at e
    · rename_i hc
      cases e; cases hx; cases hy; exact floordiv_int hc.1 (P.here R (.int _ _) _) (.inl (PyProof.noPylong_small hc.2))
    · cases e
  · cases e
def xsa : PV → PV → M PV := fun x y σ => match x, y with
  | .int a, .int b => if b ≠ 0 then some (.int (a.fmod b), σ) else none
  | _, _ => none
theorem xrE : xsp S d .Mod xsa := by
  intro A W σ s Q E x y vx vy pv σ' r R hx hy e P
  unfold xsa at e
  split at e
  · split at e
    · rename_i hc
      cases e; cases hx; cases hy; exact mod_int' hc (P.here R (.int _ _) _)
    · cases e
  · cases e
def xew : PV → Option Bool
  | .bool b => some b
  | .none => some false
  | _ => none
theorem xgB {A : Around} {W : Gh} {n : Nat} {x : PV} {v : Value} {b : Bool} {s : Shared} {Q : Bool → Shared → Prop} {E : Value → Shared → Prop} {M : Model} (hx : VR W n x v) (hb : xew x = some b) (q : Q b s) : wpAny M A (truthy v) Q E s := by
  cases hx <;> first | (cases hb; exact fun _ _ _ => q) | cases hb
def xqM (a : xa6 → M PV) : xa6 → M PV := fun fr σ => bnd (a fr σ) fun x σ1 => match xew x with | some b => some (.bool (!b), σ1) | none => none
theorem xqs {e p a} (ha : SE S d g ns e a) : SE S d g ns (.UnaryOp .Not e p) (xqM a) := by
  intro A env W fr σ s Q E pv σ' r gl R F V e P
  obtain ⟨x, σ1, e1, e⟩ := xah e
  split at e
  · rename_i b hb
    cases e
    rw [arm_eval_UnaryOp]
    refine wpAny_bind (ha A env W fr σ s _ E x _ r gl R F V e1 fun W1 vx h1 tk1 R1 t1 x1 => wpAny_bind (wpAny_standAt (wpAny_holding ?_)))
    exact not_of (xgB x1 hb (P W1 _ h1 tk1 R1 t1 (.bool _)))
  · cases e
def xud (a : xa6 → M PV) : xa6 → M PV := fun fr σ => bnd (a fr σ) fun x σ1 => match x with | .int k => some (.int (-k), σ1) | _ => none
theorem xtg {e p a} (ha : SE S d g ns e a) : SE S d g ns (.UnaryOp .USub e p) (xud a) := by
  intro A env W fr σ s Q E pv σ' r gl R F V e P
  obtain ⟨x, σ1, e1, e⟩ := xah e
  split at e
  · cases e
    rw [arm_eval_UnaryOp]
    refine wpAny_bind (ha A env W fr σ s _ E _ _ r gl R F V e1 fun W1 vx h1 tk1 R1 t1 x1 => wpAny_bind (wpAny_standAt (wpAny_holding ?_)))
    cases x1
    exact PySem.P.neg_int (P W1 _ h1 _ R1 t1 (.int _ _))
  · cases e
def xbe (a : xa6 → M PV) : xa6 → M Bool := fun fr σ => bnd (a fr σ) fun x σ1 => match xew x with | some b => some (b, σ1) | none => none
theorem xbm {e a} (ha : SE S d g ns e a) (he : ∀ env whole, isTrue e env whole = (do let v ← whole; standAt e.pos; holding [v] (truthy v)) := by intros; rfl) : ST S d g ns e (xbe a) := by
  intro A env W fr σ s Q E b σ' r gl R F V e P
  obtain ⟨x, σ1, e1, e⟩ := xah e
  split at e
  · rename_i b hb
    cases e
    refine isTrue_plain (ha A env W fr σ s _ E x _ r gl R F V e1 fun W1 vx h1 tk1 R1 t1 x1 => ?_) (he _ _)
    exact xgB x1 hb (P W1 h1 tk1 R1 t1)
  · cases e
def xoM (a : xa6 → M Bool) : xa6 → M Bool := fun fr σ => bnd (a fr σ) fun b σ1 => some (!b, σ1)
theorem xja {e p a} (ha : ST S d g ns e a) : ST S d g ns (.UnaryOp .Not e p) (xoM a) := by
  intro A env W fr σ s Q E b σ' r gl R F V e P
  obtain ⟨x, σ1, e1, e⟩ := xah e
  cases e
  exact isTrue_not (ha A env W fr σ s _ E x _ r gl R F V e1 fun W1 h1 tk1 R1 t1 => P W1 h1 tk1 R1 t1)
def xbV : xa6 → M Bool := fun _ σ => some (true, σ)
def xkC : xa6 → M Bool := fun _ σ => some (false, σ)
def xcK (a b : xa6 → M Bool) : xa6 → M Bool := fun fr σ => bnd (a fr σ) fun x σ1 => if x then b fr σ1 else some (false, σ1)
def tOr (a b : xa6 → M Bool) : xa6 → M Bool := fun fr σ => bnd (a fr σ) fun x σ1 => if x then some (true, σ1) else b fr σ1
theorem xdJ {p} : ST S d g ns (.BoolOp .And [] p) xbV := by
  intro A env W fr σ s Q E b σ' r gl R F V e P
  cases e; exact isTrue_and_nil (P.here R s.toks)
theorem xq7 {p} : ST S d g ns (.BoolOp .Or [] p) xkC := by
  intro A env W fr σ s Q E b σ' r gl R F V e P
  cases e; exact isTrue_or_nil (P.here R s.toks)
theorem xcw {e es p a b} (ha : ST S d g ns e a) (hb : ST S d g ns (.BoolOp .And es p) b) : ST S d g ns (.BoolOp .And (e :: es) p) (xcK a b) := by
  intro A env W fr σ s Q E bb σ' r gl R F V e P
  obtain ⟨x, σ1, e1, e⟩ := xah e
  refine isTrue_and (ha A env W fr σ s _ E x _ r gl R F V e1 fun W1 h1 tk1 R1 t1 => ?_)
  cases x with
  | true => exact hb A env W1 fr σ1 _ Q E bb σ' r gl R1 (F.trans t1) (V.trans F t1) e (P.next t1)
  | false => cases e; exact P W1 h1 tk1 R1 t1
theorem xpf {e es p a b} (ha : ST S d g ns e a) (hb : ST S d g ns (.BoolOp .Or es p) b) : ST S d g ns (.BoolOp .Or (e :: es) p) (tOr a b) := by
  intro A env W fr σ s Q E bb σ' r gl R F V e P
  obtain ⟨x, σ1, e1, e⟩ := xah e
  refine isTrue_or (ha A env W fr σ s _ E x _ r gl R F V e1 fun W1 h1 tk1 R1 t1 => ?_)
  cases x with
  | false => exact hb A env W1 fr σ1 _ Q E bb σ' r gl R1 (F.trans t1) (V.trans F t1) e (P.next t1)
  | true => cases e; exact P W1 h1 tk1 R1 t1
def xoC (a b : xa6 → M PV) : xa6 → M PV := fun fr σ => bnd (a fr σ) fun x σ1 => match xew x with | some true => b fr σ1 | some false => some (x, σ1) | none => none
def eOr (a b : xa6 → M PV) : xa6 → M PV := fun fr σ => bnd (a fr σ) fun x σ1 => match xew x with | some false => b fr σ1 | some true => some (x, σ1) | none => none
theorem xf2 {op e p a} (ha : SE S d g ns e a) : SE S d g ns (.BoolOp op [e] p) a := ha
theorem xkw {e1 e2 es p a b} (ha : SE S d g ns e1 a) (hb : SE S d g ns (.BoolOp .And (e2 :: es) p) b) : SE S d g ns (.BoolOp .And (e1 :: e2 :: es) p) (xoC a b) := by
  intro A env W fr σ s Q E pv σ' r gl R F V e P
  obtain ⟨x, σ1, q1, e⟩ := xah e
  refine BoolOp_and (ha A env W fr σ s _ E x _ r gl R F V q1 fun W1 vx h1 tk1 R1 t1 x1 => ?_)
  split at e
  · rename_i ht
    refine xgB x1 ht ?_
    exact hb A env W1 fr σ1 _ Q E pv σ' r gl R1 (F.trans t1) (V.trans F t1) e (P.next t1)
  · rename_i ht
    cases e
    exact xgB x1 ht (P W1 _ h1 tk1 R1 t1 x1)
  · cases e
theorem xps {e1 e2 es p a b} (ha : SE S d g ns e1 a) (hb : SE S d g ns (.BoolOp .Or (e2 :: es) p) b) : SE S d g ns (.BoolOp .Or (e1 :: e2 :: es) p) (eOr a b) := by
  intro A env W fr σ s Q E pv σ' r gl R F V e P
  obtain ⟨x, σ1, q1, e⟩ := xah e
  refine BoolOp_or (ha A env W fr σ s _ E x _ r gl R F V q1 fun W1 vx h1 tk1 R1 t1 x1 => ?_)
  split at e
  · rename_i ht
    refine xgB x1 ht ?_
    exact hb A env W1 fr σ1 _ Q E pv σ' r gl R1 (F.trans t1) (V.trans F t1) e (P.next t1)
  · rename_i ht
    cases e
    exact xgB x1 ht (P W1 _ h1 tk1 R1 t1 x1)
  · cases e
def eIf (c : xa6 → M Bool) (a b : xa6 → M PV) : xa6 → M PV := fun fr σ => bnd (c fr σ) fun x σ1 => if x then a fr σ1 else b fr σ1
theorem xiD {c a b p ec ea eb} (hc : ST S d g ns c ec) (ha : SE S d g ns a ea) (hb : SE S d g ns b eb) : SE S d g ns (.IfExp c a b p) (eIf ec ea eb) := by
  intro A env W fr σ s Q E pv σ' r gl R F V e P
  obtain ⟨x, σ1, e1, e⟩ := xah e
  refine IfExp_ (hc A env W fr σ s _ E x _ r gl R F V e1 fun W1 h1 tk1 R1 t1 => ?_)
  cases x with
  | true => exact ha A env W1 fr σ1 _ Q E pv σ' r gl R1 (F.trans t1) (V.trans F t1) e (P.next t1)
  | false => exact hb A env W1 fr σ1 _ Q E pv σ' r gl R1 (F.trans t1) (V.trans F t1) e (P.next t1)
def COK (S : xfo) (d : Nat) (op : CmpOp) (f : PV → PV → St → Option Bool) : Prop :=
  ∀ (A : Around) (W : Gh) (σ : St) (s : Shared) (Q : Value → Shared → Prop) (E : Value → Shared → Prop) (x y : PV) (vx vy : Value) (b : Bool),
    xhK d A → Rep S W σ s.heap → VR W σ.next x vx → VR W σ.next y vy → f x y σ = some b → xhI S W σ.next s (.bool b) σ Q → wpAny (model S.prog S.w) A (compareOp op vx vy) Q E s
def xg3 (f : Int → Int → Bool) : PV → PV → St → Option Bool := fun x y _ => match x, y with | .int a, .int b => some (f a b) | _, _ => none
def cLt := xg3 fun a b => decide (a < b)
def cLe := xg3 fun a b => decide (a ≤ b)
def cGt := xg3 fun a b => decide (b < a)
def cGe := xg3 fun a b => decide (b ≤ a)
theorem xeF : COK S d .Lt cLt := by
  intro A W σ s Q E x y vx vy b r R hx hy e P
  unfold cLt xg3 at e; split at e
  · cases e; cases hx; cases hy; exact lt_int (P.here R (.bool _) s.toks)
  · cases e
theorem xl5 : COK S d .LtE cLe := by
  intro A W σ s Q E x y vx vy b r R hx hy e P
  unfold cLe xg3 at e; split at e
  · cases e; cases hx; cases hy; exact le_int (P.here R (.bool _) s.toks)
  · cases e
theorem xmA : COK S d .Gt cGt := by
  intro A W σ s Q E x y vx vy b r R hx hy e P
  unfold cGt xg3 at e; split at e
  · cases e; cases hx; cases hy; exact gt_int (P.here R (.bool _) s.toks)
  · cases e
theorem xs8 : COK S d .GtE cGe := by
  intro A W σ s Q E x y vx vy b r R hx hy e P
  unfold cGe xg3 at e; split at e
  · cases e; cases hx; cases hy; exact ge_int (P.here R (.bool _) s.toks)
  · cases e
def xcc : PV → PV → Option Bool
  | .none, .none => some true
  | .none, .ref _ => some false
  | .ref _, .none => some false
  | .none, .tup _ => some false
  | .tup _, .none => some false
  | .none, .bool _ => some false
  | .bool _, .none => some false
  | .ref i, .ref j => some (decide (i = j))
  | _, _ => none
def cIs : PV → PV → St → Option Bool := fun x y _ => xcc x y
def xbc : PV → PV → St → Option Bool := fun x y _ => (xcc x y).map (!·)
theorem Rep.notTuple {W : Gh} {σ : St} {h : Heap} (R : Rep S W σ h) {i : Nat} (hi : i < σ.next) : ∃ o, h.get? (W.ad i).1 = some o ∧ o.cls ≠ .type "tuple" := by
  have := R.obj i hi
  cases ho : σ.objs i with
  | inst C fs => rw [ho] at this; exact ⟨_, this.2.1, by simp⟩
  | list vs => rw [ho] at this; obtain ⟨_, _, ⟨_, e⟩, _⟩ := this; exact ⟨_, e, by simp⟩
  | flist vs => rw [ho] at this; obtain ⟨_, _, ⟨_, e⟩, _⟩ := this; exact ⟨_, e, by simp⟩
  | dict es => rw [ho] at this; obtain ⟨_, _, ⟨o, _, _, e, c, _⟩, _⟩ := this; exact ⟨_, e, by rw [c.1]; simp⟩
  | fdict es => rw [ho] at this; obtain ⟨_, _, ⟨o, _, _, e, c, _⟩, _⟩ := this; exact ⟨_, e, by rw [c.1]; simp⟩
theorem Rep.adNe {W : Gh} {σ : St} {h : Heap} (R : Rep S W σ h) {i j : Nat} (hi : i < σ.next) (hj : j < σ.next) (q : i ≠ j) : (W.ad i).1 ≠ (W.ad j).1 := (R.apart i j hi hj q).1
theorem xio : COK S d .Is cIs := by
  intro A W σ s Q E x y vx vy b r R hx hy e P
  unfold cIs xcc at e
  split at e <;> first | (cases e; done) | skip
  all_goals cases hx; cases hy
  all_goals try (cases e; exact wpAny_is_self rfl (P.here R (.bool _) s.toks))
  all_goals try (cases e; exact wpAny_is_other rfl (by simp) (P.here R (.bool _) s.toks))
  rename_i i j hi hj
  cases e
  by_cases q : i = j
  · subst q; simp only [decide_true] at P; exact wpAny_is_ref_self (P.here R (.bool _) s.toks)
  · simp only [q, decide_false] at P
    obtain ⟨o1, h1, n1⟩ := R.notTuple hi
    obtain ⟨o2, h2, n2⟩ := R.notTuple hj
    exact wpAny_is_ref_other (R.adNe hi hj q) h1 h2 n1 (P.here R (.bool _) s.toks)
theorem xbF : COK S d .IsNot xbc := by
  intro A W σ s Q E x y vx vy b r R hx hy e P
  unfold xbc at e
  obtain ⟨b', e2, hb⟩ := Option.map_eq_some_iff.mp e
  clear e
  have e := e2
  clear e2
  have hb' : b = !b' := hb.symm
  clear hb
  unfold xcc at e
  split at e <;> first | (cases e; done) | skip
  all_goals cases hx; cases hy
  all_goals try (have e' := Option.some.inj e; subst e'; subst hb'; exact wpAny_isNot_self rfl (P.here R (.bool _) s.toks))
  all_goals try (have e' := Option.some.inj e; subst e'; subst hb'; exact wpAny_isNot_other rfl (by simp) (P.here R (.bool _) s.toks))
  rename_i i j hi hj
  have e' := Option.some.inj e
  subst e'; subst hb'
  by_cases q : i = j
  · subst q; simp only [decide_true] at P; exact wpAny_isNot_ref_self (P.here R (.bool _) s.toks)
  · simp only [q, decide_false] at P
    obtain ⟨o1, h1, n1⟩ := R.notTuple hi
    obtain ⟨o2, h2, n2⟩ := R.notTuple hj
    exact wpAny_isNot_ref_other (R.adNe hi hj q) h1 h2 n1 (P.here R (.bool _) s.toks)
def SCh (S : xfo) (d : Nat) (g : Gn) (ns : List Str) (ops : List CmpOp) (es : List Expr) (k : PV → xa6 → M Bool) : Prop :=
  ∀ (A : Around) (env : Env) (W : Gh) (fr : xa6) (σ : St) (s : Shared) (E : Value → Shared → Prop) (x : PV) (vx : Value) (b : Bool) (σ' : St) (pos : Pos),
    xhK d A → GL g env → Rep S W σ s.heap → Frm S env W σ.next s.heap → xi9 env W σ.next s.heap ns fr → VR W σ.next x vx → k x fr σ = some (b, σ') →
    (∀ Q, xmz S W σ.next s b σ' Q → wpAny (model S.prog S.w) A (testChain pos vx ops (evalEach es env)) Q E s) ∧
    (∀ Q, xhI S W σ.next s (.bool b) σ' Q → wpAny (model S.prog S.w) A (compareChain pos vx ops (evalEach es env)) Q E s)
def xai (f : PV → PV → St → Option Bool) (r : xa6 → M PV) : PV → xa6 → M Bool := fun x fr σ => bnd (r fr σ) fun y σ1 => match f x y σ1 with | some b => some (b, σ1) | none => none
def xbQ (f : PV → PV → St → Option Bool) (r : xa6 → M PV) (k : PV → xa6 → M Bool) : PV → xa6 → M Bool := fun x fr σ => bnd (r fr σ) fun y σ1 => match f x y σ1 with | some true => k y fr σ1 | some false => some (false, σ1) | none => none
theorem xax {op e f r} (hf : COK S d op f) (hr : SE S d g ns e r) : SCh S d g ns [op] [e] (xai f r) := by
  intro A env W fr σ s E x vx b σ' pos rm gl R F V hx e
  obtain ⟨y, σ1, e1, e⟩ := xah e
  split at e
  · rename_i b hb
    cases e
    constructor
    · intro Q P
      refine wpAny_bind (wpAny_holding (hr A env W fr σ s _ E y _ rm gl R F V e1 fun W1 vy h1 tk1 R1 t1 x1 => wpAny_bind (wpAny_standAt (wpAny_bind (wpAny_operate' ?_)))))
      refine hf A W1 _ _ _ E x y vx vy b rm R1 (t1.vr hx) x1 hb fun W2 v h2 tk2 R2 t2 x2 => ?_
      cases x2
      exact wpAny_holding (wpAny_truthy_bool (P W2 h2 tk2 R2 (t1.comp t2)))
    · intro Q P
      refine wpAny_bind (wpAny_holding (hr A env W fr σ s _ E y _ rm gl R F V e1 fun W1 vy h1 tk1 R1 t1 x1 => wpAny_bind (wpAny_standAt (wpAny_operate' ?_))))
      exact hf A W1 _ _ _ E x y vx vy b rm R1 (t1.vr hx) x1 hb (P.next t1)
  · cases e
theorem xd5 {op op2 ops e e2 es f r k} (hf : COK S d op f) (hr : SE S d g ns e r) (hk : SCh S d g ns (op2 :: ops) (e2 :: es) k) : SCh S d g ns (op :: op2 :: ops) (e :: e2 :: es) (xbQ f r k) := by
  intro A env W fr σ s E x vx b σ' pos rm gl R F V hx e
  obtain ⟨y, σ1, e1, e⟩ := xah e
  constructor
  · intro Q P
    refine wpAny_bind (wpAny_holding (hr A env W fr σ s _ E y _ rm gl R F V e1 fun W1 vy h1 tk1 R1 t1 x1 => wpAny_bind (wpAny_standAt (wpAny_bind (wpAny_holding ?_)))))
    split at e
    · rename_i hb
      refine hf A W1 _ _ _ E x y vx vy true rm R1 (t1.vr hx) x1 hb fun W2 v h2 tk2 R2 t2 x2 => ?_
      cases x2
      refine wpAny_bind (wpAny_release' (wpAny_bind (wpAny_holding (wpAny_truthy_bool ?_))))
      have t := t1.comp t2
      exact (hk A env W2 fr σ1 _ E y vy b σ' pos rm gl R2 (F.trans t) (V.trans F t) (t2.vr x1) e).1 Q (P.next t)
    · rename_i hb
      cases e
      refine hf A W1 _ _ _ E x y vx vy false rm R1 (t1.vr hx) x1 hb fun W2 v h2 tk2 R2 t2 x2 => ?_
      cases x2
      refine wpAny_bind (wpAny_release' (wpAny_bind (wpAny_holding (wpAny_truthy_bool ?_))))
      exact wpAny_pure (P W2 h2 tk2 R2 (t1.comp t2))
    · cases e
  · intro Q P
    refine wpAny_bind (wpAny_holding (hr A env W fr σ s _ E y _ rm gl R F V e1 fun W1 vy h1 tk1 R1 t1 x1 => wpAny_bind (wpAny_standAt (wpAny_bind (wpAny_holding ?_)))))
    split at e
    · rename_i hb
      refine hf A W1 _ _ _ E x y vx vy true rm R1 (t1.vr hx) x1 hb fun W2 v h2 tk2 R2 t2 x2 => ?_
      cases x2
      refine wpAny_bind (wpAny_release' (wpAny_bind (wpAny_holding (wpAny_truthy_bool ?_))))
      have t := t1.comp t2
      exact (hk A env W2 fr σ1 _ E y vy b σ' pos rm gl R2 (F.trans t) (V.trans F t) (t2.vr x1) e).2 Q (P.next t)
    · rename_i hb
      cases e
      refine hf A W1 _ _ _ E x y vx vy false rm R1 (t1.vr hx) x1 hb fun W2 v h2 tk2 R2 t2 x2 => ?_
      cases x2
      refine wpAny_bind (wpAny_release' (wpAny_bind (wpAny_holding (wpAny_truthy_bool ?_))))
      exact wpAny_pure (P W2 _ h2 tk2 R2 (t1.comp t2) (.bool _))
    · cases e
def xdY (a : xa6 → M PV) (k : PV → xa6 → M Bool) : xa6 → M PV := fun fr σ => bnd (a fr σ) fun x σ1 => bnd (k x fr σ1) fun b σ2 => some (.bool b, σ2)
def xaP (a : xa6 → M PV) (k : PV → xa6 → M Bool) : xa6 → M Bool := fun fr σ => bnd (a fr σ) fun x σ1 => k x fr σ1
theorem xcX {l ops cs p a k} (ha : SE S d g ns l a) (hk : SCh S d g ns ops cs k) (hm : lastMarks ops cs = false := by with_unfolding_all rfl) : SE S d g ns (.Compare l ops cs p) (xdY a k) := by
  intro A env W fr σ s Q E pv σ' r gl R F V e P
  obtain ⟨x, σ1, e1, e⟩ := xah e
  obtain ⟨b, σ2, e2, e⟩ := xah e
  cases e
  rw [arm_eval_Compare, markedEach_of_false _ _ _ hm]
  refine wpAny_bind (ha A env W fr σ s _ E x _ r gl R F V e1 fun W1 vx h1 tk1 R1 t1 x1 => ?_)
  exact (hk A env W1 fr σ1 _ E x vx b _ p r gl R1 (F.trans t1) (V.trans F t1) x1 e2).2 Q (P.next t1)
theorem xaQ {l ops cs p a k} (ha : SE S d g ns l a) (hk : SCh S d g ns ops cs k) (hm : lastMarks ops cs = false := by with_unfolding_all rfl) : ST S d g ns (.Compare l ops cs p) (xaP a k) := by
  intro A env W fr σ s Q E b σ' r gl R F V e P
  obtain ⟨x, σ1, e1, e⟩ := xah e
  rw [arm_isTrue_Compare, markedEach_of_false _ _ _ hm]
  refine wpAny_bind (ha A env W fr σ s _ E x _ r gl R F V e1 fun W1 vx h1 tk1 R1 t1 x1 => ?_)
  exact (hk A env W1 fr σ1 _ E x vx b _ p r gl R1 (F.trans t1) (V.trans F t1) x1 e).1 Q (P.next t1)
end
section
open PySem PySem.W PyProof.Rows PySem.Calls
variable {S : xfo}
variable {d : Nat} {g : Gn} {ns : List Str}
structure xmY (S : xfo) (c : Nat) : Prop where
  hasDict : hasDictIn S.K (S.cadr c) = true
  get : plainGet S.K (S.cadr c) "" = true
  set : findIn S.K (.ref (S.cadr c)) "__setattr__" = some (some (.builtin "object.__setattr__"))
  over : plainOver S.K (S.cadr c) = true
def xoU (S : xfo) (x : Str) (c k : Nat) : Prop := xmY S c ∧ (S.flds c)[k]? = some x ∧ findIn S.K (.ref (S.cadr c)) x = some none
theorem VR.handed {W : Gh} {n : Nat} {p : PV} {v : Value} (h : VR W n p v) : handedIn v = true := by cases h <;> rfl
theorem xpB {o : Obj} {es : Array DictEntry} {ep : Nat} (hd : o.data = .dict es ep) (x : Str) {v : Value} (e : nsFind es x = some v) : lookIn x o = some (some v) := by
  unfold lookIn
  rw [hd]
  dsimp only
  unfold nsFind findBy at e
  rw [← Array.find?_toList] at e
  obtain ⟨en, h1, h2⟩ := Option.map_eq_some_iff.mp e
  rw [h1]
  dsimp only
  rw [h2]
theorem xkf {o : Obj} {es : Array DictEntry} {ep : Nat} (hd : o.data = .dict es ep) (hs : StrKeys es) (x : Str) (e : nsFind es x = none) : lookIn x o = some none := by
  unfold lookIn
  rw [hd]
  dsimp only
  unfold nsFind findBy at e
  rw [← Array.find?_toList] at e
  rw [Option.map_eq_none_iff.mp e]
  dsimp only
  have : es.toList.any (·.refKey) = false := by
    rw [List.any_eq_false]
    intro en hen
    obtain ⟨n, t, hk⟩ := hs en (Array.mem_toList_iff.mp hen)
    simp [DictEntry.refKey, hk]
  rw [this]; rfl
theorem xpi {A : Around} {W : Gh} {σ : St} {s : Shared} {Q : Value → Shared → Prop} {E : Value → Shared → Prop} {i c k : Nat} {fs : List PV} {pv : PV} {x : Str} {b : Bool}
    (R : Rep S W σ s.heap) (hi : i < σ.next) (ho : σ.objs i = .inst c fs) (at_ : xoU S x c k) (hv : fs[k]? = some pv) (P : xhI S W σ.next s pv σ Q) :
    wpAny (model S.prog S.w) A (getAttr (.ref (W.ad i).1) x b) Q E s := by
  obtain ⟨cf, hk, hn⟩ := at_
  have O := R.obj i hi
  rw [ho] at O
  obtain ⟨ne, hx, m, ⟨o, es, ep, hd, hdd, hsk, hm⟩, hf, _⟩ := O
  obtain ⟨v, e, hvr⟩ := hf k x pv hk hv
  have I : InstAt s.heap (W.ad i).1 (instObj (S.cadr c) (W.ad i).2) (S.cadr c) (some o) := ⟨hx, rfl, rfl, hd⟩
  refine get_value (S.X.keeps R.base) I (plainGet_of (name := "") cf.get).1 (findObj_own cf.hasDict hn rfl (xpB hdd x ((hm x).trans e))) hvr.handed ?_
  exact P W v s.heap _ R .refl hvr
def xaN (tbl : List (Nat × Nat)) (x : PV) (σ : St) : Option PV := match x with
  | .ref i => (match σ.objs i with
    | .inst c fs => (match tbl.lookup c with
      | some k => fs[k]?
      | none => none)
    | _ => none)
  | _ => none
def xcN (S : xfo) (x : Str) (tbl : List (Nat × Nat)) : Prop := ∀ c k, tbl.lookup c = some k → xoU S x c k
def xa9 (tbl : List (Nat × Nat)) (a : xa6 → M PV) : xa6 → M PV := fun fr σ => bnd (a fr σ) fun x σ1 => match xaN tbl x σ1 with
  | some v => some (v, σ1)
  | none => none
theorem xpM {A : Around} {W : Gh} {σ : St} {s : Shared} {Q : Value → Shared → Prop} {E : Value → Shared → Prop} {pv px : PV} {vx : Value} {x : Str} {tbl : List (Nat × Nat)} {b : Bool} (ht : xcN S x tbl) (R : Rep S W σ s.heap)
    (hx : VR W σ.next px vx) (h : xaN tbl px σ = some pv) (P : xhI S W σ.next s pv σ Q) : wpAny (model S.prog S.w) A (getAttr vx x b) Q E s := by
  unfold xaN at h
  split at h
  · split at h
    · rename_i hi
      split at h
      · rename_i hk
        cases hx with
        | ref j hj => exact xpi R hj hi (ht _ _ hk) h P
      · cases h
    · cases h
  · cases h
theorem xac {e : Expr} {x : Str} {p : Pos} {a : xa6 → M PV} (tbl : List (Nat × Nat)) (ht : xcN S x tbl) (ha : SE S d g ns e a)
    (he : ∀ env, eval (.Attribute e x p) env = (do
      let o ← eval e env
      standAt p.atName
      let r ← holding [o] (getAttr o x true)
      letTemporaryGo e o r
      pure r) := by intro env; with_unfolding_all rfl) : SE S d g ns (.Attribute e x p) (xa9 tbl a) := by
  intro A env W fr σ s Q E pv σ' r gl R F V e P
  obtain ⟨y, σ1, e1, e⟩ := xah e
  split at e
  · rename_i v hv
    cases e
    exact Attribute_any_ (ha A env W fr σ s _ E y _ r gl R F V e1 fun W1 vy h1 tk1 R1 t1 x1 => xpM ht R1 x1 hv (P.next t1)) (he env)
  · cases e
def xbO (tbl : List (Nat × Nat)) (x : PV) (v : PV) (σ : St) : Option St := match x with
  | .ref i => (match σ.objs i with
    | .inst c fs => (match tbl.lookup c with
      | some k => if k < fs.length then some (σ.set i (.inst c (fs.set k v))) else if k = fs.length ∧ k < 100 then some (σ.set i (.inst c (fs ++ [v]))) else none
      | none => none)
    | _ => none)
  | _ => none
theorem xr3 {M : Model} {A : Around} {s : Shared} {E : Value → Shared → Prop} {a : Addr} {m : Str → Option Value} {x : Str} {v : Value} {n : Nat} {Q : Unit → Shared → Prop} (hn : s.heap.Ns a m) (hz : s.heap.DictLe a n)
    (h : ∀ h', h'.Ns a (fun y => if y = x then some v else m y) → Heap.SameBut a s.heap h' → h'.DictLe a (if (m x).isSome then n else n + 1) → Q () { s with heap := h', toks := s.toks + 1 }) :
    wpAny M A (nsSet a x v) Q E s := by
  obtain ⟨o, es, ep, ho, hd, hk, hm⟩ := id hn
  have hsz := hz o es ep ho hd
  have c : (!es.any (·.key.isStr x) && es.any (·.refKey)) = false := by
    have : es.any (·.refKey) = false := by
      rw [Array.any_eq_false']; intro e he; obtain ⟨n, t, h⟩ := hk e he; simp [DictEntry.refKey, h]
    rw [this, Bool.and_false]
  unfold nsSet
  refine wpAny_bind (wpAny_bind (wpAny_askSetting (wpAny_pure (wpAny_bind (wpAny_mkText (wpAny_bind (wpAny_loadPart ho ?_)))))))
  rw [hd]
  dsimp only
  rw [aRefKeyMayBeTheName_at, c]
  refine wpAny_updatePart ho ?_
  have key : ∀ e : (m x).isSome = es.any (·.key.isStr x), True := fun _ => trivial
  have hsome : (m x) = (es.find? (·.key.isStr x)).map (·.val) := (hm x).symm
  refine h _ ?_ (Heap.SameBut.update ..) ?_
  · obtain ⟨cc, dd, dt, sl⟩ := o
    subst hd
    cases hi : es.findIdx? (·.key.isStr x) with
    | some i =>
      refine ⟨_, _, ep, Heap.get?_update_self _ ho (by simp only [Obj.putName_eq, Obj.putNameByArray, hi]; rfl), by simp only [Obj.putName_eq, Obj.putNameByArray, hi]; rfl, hk.modify _ _, fun y => ?_⟩
      show _ = if y = x then some v else m y
      rw [← hm]; exact findBy_modify (fun n v => v.isStr n) Value.isStr_inj es x y v i hi
    | none =>
      refine ⟨_, _, ep + 1, Heap.get?_update_self _ ho (by simp only [Obj.putName_eq, Obj.putNameByArray, hi]; rfl), by simp only [Obj.putName_eq, Obj.putNameByArray, hi]; rfl, hk.push _ _ _ _, fun y => ?_⟩
      show _ = if y = x then some v else m y
      rw [← hm]
      exact findBy_push (fun n v => v.isStr n) es x y _ _ v (fun z => by
        show (x == z) = decide (z = x)
        by_cases h : z = x
        · subst h; simp
        · simp [h, Ne.symm h]) hi
  · obtain ⟨cc, dd, dt, sl⟩ := o
    subst hd
    intro o' es' ep' ho' hd'
    cases hi : es.findIdx? (·.key.isStr x) with
    | some i =>
      have e1 := Heap.get?_update_self (Obj.putName x (PyData.keyHash M.w.params x) (.str x s.toks) v) ho (by simp only [Obj.putName_eq, Obj.putNameByArray, hi]; rfl)
      have e2 : s.heap.update a (Obj.putName x (PyData.keyHash M.w.params x) (.str x s.toks) v) = s.heap.update a (Obj.putName x (PyData.keyHash M.w.params x) (.str x s.toks) v) := rfl
      have ho'' := e1.symm.trans ho'
      cases ho''
      simp only [Obj.putName_eq, Obj.putNameByArray, hi] at hd'
      cases hd'
      rw [Array.size_modify]
      split <;> omega
    | none =>
      have e1 := Heap.get?_update_self (Obj.putName x (PyData.keyHash M.w.params x) (.str x s.toks) v) ho (by simp only [Obj.putName_eq, Obj.putNameByArray, hi]; rfl)
      have ho'' := e1.symm.trans ho'
      cases ho''
      simp only [Obj.putName_eq, Obj.putNameByArray, hi] at hd'
      cases hd'
      rw [Array.size_push]
      have : (m x).isSome = false := by
        rw [hsome, Option.isSome_map]
        cases q : es.find? (·.key.isStr x) with
        | none => rfl
        | some e =>
          have h1 : (es.findIdx? (·.key.isStr x)).isSome = true := by
            rw [Array.findIdx?_isSome, Array.any_eq_true]
            obtain ⟨j, hj, hj'⟩ := Array.mem_iff_getElem.mp (Array.mem_of_find?_eq_some q)
            have h2 := Array.find?_some (p := fun e : DictEntry => e.key.isStr x) q
            exact ⟨j, hj, by rw [hj']; exact h2⟩
          rw [hi] at h1; cases h1
      rw [this]
      simp only [Bool.false_eq_true, if_false]
      omega
theorem Rep.unfz {W : Gh} {σ : St} {h : Heap} (R : Rep S W σ h) {i : Nat} (hi : i < σ.next) (hn : (∀ es, σ.objs i ≠ .fdict es) ∧ ∀ vs, σ.objs i ≠ .flist vs) : W.fz i = false := by
  cases q : W.fz i with
  | false => rfl
  | true =>
    rcases R.frz i hi q with ⟨es, he⟩ | ⟨vs, he⟩
    · exact absurd he (hn.1 es)
    · exact absurd he (hn.2 vs)
theorem xkz {A : Around} {W : Gh} {σ : St} {s : Shared} {Q : Unit → Shared → Prop} {E : Value → Shared → Prop} {i c k : Nat} {fs fs' : List PV} {pv : PV} {v : Value} {x : Str}
    (R : Rep S W σ s.heap) (hi : i < σ.next) (ho : σ.objs i = .inst c fs) (at_ : xoU S x c k) (hv : VR W σ.next pv v)
    (h0 : k ≤ fs.length) (hl' : fs'.length = if k < fs.length then fs.length else fs.length + 1) (hmx : fs'.length ≤ 100) (h1 : fs'[k]? = some pv) (h2 : ∀ j, j ≠ k → fs'[j]? = fs[j]?) (h3 : fs.length ≤ fs'.length)
    (P : ∀ h' tk, Rep S W (σ.set i (.inst c fs')) h' → xbu noX W σ.next s.heap W σ.next h' → Q () { s with heap := h', toks := tk }) :
    wpAny (model S.prog S.w) A (setAttr (.ref (W.ad i).1) x v) Q E s := by
  obtain ⟨cf, hk, hn⟩ := at_
  have O := R.obj i hi
  rw [ho] at O
  obtain ⟨ne, hx, m, hns, hf, hg, hz, hl⟩ := O
  obtain ⟨o, es, ep, hd, hdd, hsk, hm⟩ := id hns
  have I : InstAt s.heap (W.ad i).1 (instObj (S.cadr c) (W.ad i).2) (S.cadr c) (some o) := ⟨hx, rfl, rfl, hd⟩
  have X := S.X.keeps R.base
  refine set_plain X I cf.set (osa_open (s := { s with toks := s.toks + 1 }) X I cf.over (by unfold takerIn; rw [hn]; rfl) fun b => ?_)
  obtain ⟨cd, hc, hd'⟩ := any_some cf.hasDict
  refine wpAny_bind (wpAny_pure (wpAny_bind (wpAny_bind (wpAny_loadPart hx (wpAny_bind (looks_clsIn X hc _ _ _ _ (fun _ _ e => e) ?_))))))
  rw [hd']
  refine wpAny_pure (a := some (W.ad i).2) (wpAny_bind (wpAny_pure (wpAny_bind (xr3 (s := { s with toks := s.toks + 1 }) hns hz fun h' hn' hs' hz' => ?_))))
  have hz2 : h'.DictLe (W.ad i).2 fs'.length := by
    rw [hl']
    by_cases q : k < fs.length
    · rw [if_pos q]
      obtain ⟨v0, e0, _⟩ := hf k x fs[k] hk (by simp [q])
      rw [e0] at hz'; exact hz'
    · rw [if_neg q]; exact hz'.mono (by split <;> omega)
  obtain ⟨o', es', ep', ho', hd2, _, _⟩ := id hn'
  have hle := hz2 o' es' ep' ho' hd2
  refine wpAny_bind (wpAny_lookBehind ho' (by rw [hd2]; exact pastItsLine_dict (by rw [sizeLine_eq]; omega)) (wpAny_pure ?_))
  have hx' : h'.get? (W.ad i).1 = some (instObj (S.cadr c) (W.ad i).2) := (hs'.2 _ ne).trans hx
  have hob : xgH S W σ.next h' (W.ad i) (.inst c fs') := by
    refine ⟨ne, hx', _, hn', fun j y pv' e1 e2 => ?_, fun y hy => ?_, hz2, hmx⟩
    · by_cases q : j = k
      · subst q
        rw [hk] at e1; cases e1
        rw [h1] at e2; cases e2
        exact ⟨v, if_pos rfl, hv⟩
      · rw [h2 j q] at e2
        obtain ⟨v', e3, hv'⟩ := hf j y pv' e1 e2
        refine ⟨v', ?_, hv'⟩
        show (if y = x then _ else _) = _
        rw [if_neg (fun z => q (S.inj c j k x (by rw [z] at e1; exact e1) hk))]; exact e3
    · have hk' : k < fs'.length := by
        rcases Nat.lt_or_ge k fs'.length with z | z
        · exact z
        · rw [List.getElem?_eq_none z] at h1; cases h1
      have : y ≠ x := fun z => hy k hk' (z ▸ hk)
      show (if y = x then _ else _) = _
      rw [if_neg this]
      exact hg y fun j hj => hy j (Nat.lt_of_lt_of_le hj h3)
  obtain ⟨R', t'⟩ := R.upd hi (R.unfz hi (by rw [ho]; exact ⟨(fun _ q => by cases q), (fun _ q => by cases q)⟩)) (a := (W.ad i).2) (.inr rfl) (fun b o hb e => (hs'.2 b hb).trans e) (let ⟨o, _, _, e, _⟩ := hn'; ⟨o, e⟩) hob
  exact P h' _ R' t'
theorem xpm {A : Around} {W : Gh} {σ σ' : St} {s : Shared} {Q : Unit → Shared → Prop} {E : Value → Shared → Prop} {pv px : PV} {v vx : Value} {x : Str} {tbl : List (Nat × Nat)} (ht : xcN S x tbl) (R : Rep S W σ s.heap)
    (hx : VR W σ.next px vx) (hv : VR W σ.next pv v) (h : xbO tbl px pv σ = some σ')
    (P : ∀ h' tk, Rep S W σ' h' → xbu noX W σ.next s.heap W σ'.next h' → Q () { s with heap := h', toks := tk }) : wpAny (model S.prog S.w) A (setAttr vx x v) Q E s := by
  unfold xbO at h
  split at h
  · split at h
    · rename_i i _ c fs hi
      split at h
      · rename_i k hk
        split at h
        · rename_i hl
          cases h
          cases hx with
          | ref j hj =>
            have O := R.obj i hj
            rw [hi] at O
            obtain ⟨_, _, _, _, _, _, _, hl100⟩ := O
            exact xkz (fs' := fs.set k pv) R hj hi (ht _ _ hk) hv (Nat.le_of_lt hl) (by rw [if_pos hl]; simp) (by simpa using hl100) (by simp [hl]) (fun j hj => by simp [Ne.symm hj]) (by simp) P
        · split at h
          · rename_i hl
            obtain ⟨hl, hl2⟩ := hl
            subst hl
            cases h
            cases hx with
            | ref j hj =>
              refine xkz (fs' := fs ++ [pv]) R hj hi (ht _ _ hk) hv (Nat.le_refl _) (by rw [if_neg (Nat.lt_irrefl _)]; simp) (by simp; omega) (by simp) (fun j hj => ?_) (by simp) P
              rcases Nat.lt_or_ge j fs.length with z | z
              · rw [List.getElem?_append_left z]
              · rw [List.getElem?_eq_none (by simp; omega), List.getElem?_eq_none (by omega)]
          · cases h
      · cases h
    · cases h
  · cases h
end
section
open PySem PySem.W PyProof.Rows PySem.Calls
variable {S : xfo}
variable {d : Nat} {g : Gn} {ns : List Str}
inductive FR | next | ret (v : PV)
def xu5 (W : Gh) (n : Nat) : FR → Flow → Prop
  | .next, .next => True
  | .ret p, .ret v => VR W n p v
  | _, _ => False
def FX (env : Env) : Addr → Prop := fun b => b = env.locals ∨ ∃ x, env.cells.lookup x = some b
structure Sto (env : Env) (ns : List Str) : Prop where
  inj : ∀ (k k' : Nat) (x : Str), ns[k]? = some x → ns[k']? = some x → k = k'
  kind : ∀ (k : Nat) (x : Str), ns[k]? = some x → env.kindOf x = some .local ∨ (env.kindOf x = some .cell ∧ ∃ c, env.cells.lookup x = some c)
def xpo (S : xfo) (env : Env) (ns : List Str) (W : Gh) (n : Nat) (s : Shared) (f : FR) (fr' : xa6) (σ' : St) (Q : Flow → Shared → Prop) : Prop :=
  ∀ W' f' h' tk, Rep S W' σ' h' → xbu (FX env) W n s.heap W' σ'.next h' → Frm S env W' σ'.next h' → xi9 env W' σ'.next h' ns fr' → xu5 W' σ'.next f f' → Q f' { s with heap := h', toks := tk }
def SS (S : xfo) (d : Nat) (g : Gn) (ns : List Str) (st : Stmt) (m : xa6 → M (FR × xa6)) : Prop :=
  ∀ (A : Around) (env : Env) (W : Gh) (fr : xa6) (σ : St) (s : Shared) (Q : Flow → Shared → Prop) (E : Value → Shared → Prop) (f : FR) (fr' : xa6) (σ' : St),
    xhK d A → GL g env → Sto env ns → Rep S W σ s.heap → Frm S env W σ.next s.heap → xi9 env W σ.next s.heap ns fr → m fr σ = some ((f, fr'), σ') → xpo S env ns W σ.next s f fr' σ' Q →
    wpAny (model S.prog S.w) A (exec st env) Q E s
def SB (S : xfo) (d : Nat) (g : Gn) (ns : List Str) (st : List Stmt) (m : xa6 → M (FR × xa6)) : Prop :=
  ∀ (A : Around) (env : Env) (W : Gh) (fr : xa6) (σ : St) (s : Shared) (Q : Flow → Shared → Prop) (E : Value → Shared → Prop) (f : FR) (fr' : xa6) (σ' : St),
    xhK d A → GL g env → Sto env ns → Rep S W σ s.heap → Frm S env W σ.next s.heap → xi9 env W σ.next s.heap ns fr → m fr σ = some ((f, fr'), σ') → xpo S env ns W σ.next s f fr' σ' Q →
    wpAny (model S.prog S.w) A (execs st env) Q E s
theorem xbu.toX {X : Addr → Prop} {W W' : Gh} {n n' : Nat} {h h' : Heap} (t : xbu noX W n h W' n' h') : xbu X W n h W' n' h' := t.weaken fun _ q => q.elim
theorem xpo.next {env : Env} {W W1 : Gh} {n n1 : Nat} {s : Shared} {f : FR} {fr' : xa6} {σ' : St} {Q : Flow → Shared → Prop} (P : xpo S env ns W n s f fr' σ' Q) {h1 : Heap} {tk : Nat} (t : xbu (FX env) W n s.heap W1 n1 h1) :
    xpo S env ns W1 n1 { s with heap := h1, toks := tk } f fr' σ' Q := fun W' f' h' tk R t' F V x => P W' f' h' tk R (t.comp t') F V x
theorem Frm.cellNe {env : Env} {W : Gh} {n : Nat} {h : Heap} (F : Frm S env W n h) {x : Str} {c : Addr} (e : env.cells.lookup x = some c) : c ≠ env.locals := by
  obtain ⟨⟨v, o, ho, hd⟩, _, _⟩ := F.cell x c e
  obtain ⟨m, o', es, ep, ho', hd', _⟩ := F.ns
  intro q
  rw [q, ho'] at ho
  cases ho
  rw [hd'] at hd; cases hd
theorem Rep.noTup {W : Gh} {σ : St} {h : Heap} (R : Rep S W σ h) {a : Addr} {o : Obj} (ho : h.get? a = some o) (hd : (∀ vs n, o.data ≠ .seq vs n) ∧ ∀ vs, o.data ≠ .fields vs) : W.T a = none := by
  cases q : W.T a with
  | none => rfl
  | some vs =>
    obtain ⟨ho', _, _, hi⟩ := R.tup a vs q
    rw [ho] at ho'; cases ho'
    rcases hi with ⟨vals, rfl⟩ | ⟨a', b', t', u', v', rfl⟩ | ⟨_, xs, m, e⟩
    · exact absurd rfl (hd.1 _ _)
    · exact absurd rfl (hd.2 _)
    · exact absurd e (hd.1 _ _)
theorem xgu {A : Around} {env : Env} {W : Gh} {fr : xa6} {σ : St} {s : Shared} {Q : Unit → Shared → Prop} {E : Value → Shared → Prop} {x : Str} {v : Value} {pv : PV} {k : Nat} {M : Model}
    (T : Sto env ns) (R : Rep S W σ s.heap) (F : Frm S env W σ.next s.heap) (V : xi9 env W σ.next s.heap ns fr) (hx : ns[k]? = some x) (hv : VR W σ.next pv v)
    (P : ∀ h' tk, Rep S W σ h' → xbu (FX env) W σ.next s.heap W σ.next h' → Frm S env W σ.next h' → xi9 env W σ.next h' ns (fr.set k (some pv)) → Q () { s with heap := h', toks := tk }) :
    wpAny M A (storeName env x v) Q E s := by
  have getSet : ∀ (j : Nat) (y : Str) (pv' : PV), ns[j]? = some y → (fr.set k (some pv))[j]? = some (some pv') → (y = x ∧ pv' = pv) ∨ (y ≠ x ∧ fr[j]? = some (some pv')) := by
    intro j y pv' h1 h2
    by_cases q : j = k
    · subst q
      rw [hx] at h1; cases h1
      rw [List.getElem?_set] at h2
      simp only [if_true] at h2
      split at h2
      · cases h2; exact .inl ⟨rfl, rfl⟩
      · cases h2
    · rw [List.getElem?_set_ne (Ne.symm q)] at h2
      exact .inr ⟨fun z => q (T.inj j k x (z ▸ h1) hx), h2⟩
  obtain ⟨m, hm⟩ := F.ns
  obtain ⟨oL, esL, epL, hoL, hdL, _⟩ := id hm
  rcases T.kind k x hx with hl | ⟨hc, c, hcl⟩
  · refine wpAny_storeName_local hl hm (fun h' hn' hs' => ?_) (by rw [F.kind]; rfl)
    obtain ⟨R', t'⟩ := R.store F.own F.base (R.noTup hoL (by rw [hdL]; exact ⟨(fun _ _ q => by cases q), (fun _ q => by cases q)⟩)) (fun b o hb e => (hs'.2 b hb).trans e) (let ⟨o, _, _, e, _⟩ := hn'; ⟨o, e⟩)
    have cells : ∀ y c v, env.cells.lookup y = some c → s.heap.IsCell c v → h'.IsCell c v := fun y c v e hh => Heap.IsCell.at' hh fun o e' => (hs'.2 c (F.cellNe e)).trans e'
    refine P h' _ R' (t'.weaken fun b q => .inl q) ⟨F.kind, F.glob, F.bltn, ⟨_, hn'⟩, F.own, F.base, fun y c e => ?_, F.apart⟩ fun j y pv' h1 h2 => ?_
    · obtain ⟨⟨v', hv'⟩, n1, n2⟩ := F.cell y c e
      exact ⟨⟨v', cells y c v' e hv'⟩, n1, n2⟩
    · rcases getSet j y pv' h1 h2 with ⟨rfl, rfl⟩ | ⟨hne, h2⟩
      · exact ⟨v, hv, .inl ⟨hl, _, hn', if_pos rfl⟩⟩
      · obtain ⟨v', hv', hh⟩ := V j y pv' h1 h2
        refine ⟨v', hv', ?_⟩
        rcases hh with ⟨a, m2, b, e⟩ | ⟨a, c, b, e⟩
        · refine .inl ⟨a, _, hn', ?_⟩
          show (if y = x then _ else _) = _
          rw [if_neg hne]
          obtain ⟨o2, es2, ep2, ho2, hd2, _, hm2⟩ := b
          rw [hoL] at ho2; cases ho2
          obtain ⟨o3, es3, ep3, ho3, hd3, _, hm3⟩ := hm
          rw [hoL] at ho3; cases ho3
          rw [hd2] at hd3; cases hd3
          rw [← hm3, hm2]; exact e
        · exact .inr ⟨a, c, b, cells y c _ b e⟩
  · obtain ⟨⟨v0, hv0⟩, n1, n2⟩ := F.cell x c hcl
    obtain ⟨oc, hoc, hdc⟩ := id hv0
    refine wpAny_storeName_cell F.kind hc hcl hv0 (fun h' hv' hs' => ?_)
    obtain ⟨R', t'⟩ := R.store n1 n2 (R.noTup hoc (by rw [hdc]; exact ⟨(fun _ _ q => by cases q), (fun _ q => by cases q)⟩)) (fun b o hb e => (hs'.2 b hb).trans e) (let ⟨o, e, _⟩ := hv'; ⟨o, e⟩)
    have keepL : ∀ o, s.heap.get? env.locals = some o → h'.get? env.locals = some o := fun o e => (hs'.2 _ (Ne.symm (F.cellNe hcl))).trans e
    have cells : ∀ y c' v, y ≠ x → env.cells.lookup y = some c' → s.heap.IsCell c' v → h'.IsCell c' v := fun y c' v hne e hh =>
      Heap.IsCell.at' hh fun o e' => (hs'.2 c' (fun q => hne (F.apart y x c (q ▸ e) hcl))).trans e'
    refine P h' s.toks R' (t'.weaken fun b q => .inr ⟨x, q ▸ hcl⟩) ⟨F.kind, F.glob, F.bltn, ⟨_, hm.at' keepL⟩, F.own, F.base, fun y c' e => ?_, F.apart⟩ fun j y pv' h1 h2 => ?_
    · obtain ⟨⟨v', hv'⟩, n1', n2'⟩ := F.cell y c' e
      by_cases q : y = x
      · subst q
        rw [hcl] at e; cases e
        exact ⟨⟨_, ‹_›⟩, n1, n2⟩
      · exact ⟨⟨v', cells y c' v' q e hv'⟩, n1', n2'⟩
    · rcases getSet j y pv' h1 h2 with ⟨rfl, rfl⟩ | ⟨hne, h2⟩
      · exact ⟨v, hv, .inr ⟨.inl hc, c, hcl, hv'⟩⟩
      · obtain ⟨v', hv', hh⟩ := V j y pv' h1 h2
        refine ⟨v', hv', ?_⟩
        rcases hh with ⟨a, m2, b, e⟩ | ⟨a, c', b, e⟩
        · exact .inl ⟨a, m2, b.at' keepL, e⟩
        · exact .inr ⟨a, c', b, cells y c' _ hne b e⟩
def xak (k : Nat) (a : xa6 → M PV) : xa6 → M (FR × xa6) := fun fr σ => bnd (a fr σ) fun v σ1 => some ((.next, fr.set k (some v)), σ1)
theorem xaz {x : Str} {p' p : Pos} {e : Expr} {a : xa6 → M PV} (k : Nat) (ha : SE S d g ns e a) (hx : ns[k]? = some x := by rfl)
    (hs : ∀ env, swapsWith e (some (.Name x p')) p.line env = pure false := by intro env; rfl) : SS S d g ns (.Assign [.Name x p'] e p) (xak k a) := by
  intro A env W fr σ s Q E f fr' σ' r gl T R F V e P
  obtain ⟨v, σ1, e1, e⟩ := xah e
  cases e
  refine wpAny_Assign_Name (ha A env W fr σ s _ E v _ r gl R F V e1 fun W1 vv h1 tk1 R1 t1 x1 => ?_) (hs env)
  refine xgu T R1 (F.trans t1) (V.trans F t1) hx x1 fun h2 tk2 R2 t2 F2 V2 => ?_
  exact P W1 .next h2 tk2 R2 (t1.toX.comp t2) F2 V2 trivial
def xa7 (tbl : List (Nat × Nat)) (o v : xa6 → M PV) : xa6 → M (FR × xa6) := fun fr σ => bnd (v fr σ) fun x σ1 => bnd (o fr σ1) fun y σ2 => match xbO tbl y x σ2 with
  | some σ3 => some ((.next, fr), σ3)
  | none => none
theorem xnY {tbl x v σ σ'} (h : xbO tbl x v σ = some σ') : σ'.next = σ.next := by
  unfold xbO at h
  split at h
  · split at h
    · split at h
      · split at h
        · cases h; rfl
        · split at h
          · cases h; rfl
          · cases h
      · cases h
    · cases h
  · cases h
theorem xab {o e : Expr} {x : Str} {p' p : Pos} {a b : xa6 → M PV} (tbl : List (Nat × Nat)) (ht : xcN S x tbl) (ho : SE S d g ns o b) (ha : SE S d g ns e a)
    (hs : ∀ env, swapsWith e (some (.Attribute o x p')) p.line env = pure false := by intro env; rfl) : SS S d g ns (.Assign [.Attribute o x p'] e p) (xa7 tbl b a) := by
  intro A env W fr σ s Q E f fr' σ' r gl T R F V e P
  obtain ⟨v, σ1, e1, e⟩ := xah e
  obtain ⟨y, σ2, e2, e⟩ := xah e
  split at e
  · rename_i σ3 hp
    cases e
    refine plainObj_wpAny_Assign_Attribute (ha A env W fr σ s _ E v _ r gl R F V e1 fun W1 vv h1 tk1 R1 t1 x1 => ?_) (hs env)
    refine ho A env W1 fr σ1 _ _ E y _ r gl R1 (F.trans t1) (V.trans F t1) e2 fun W2 vo h2 tk2 R2 t2 x2 => ?_
    refine xpm ht R2 x2 (t2.vr x1) hp fun h3 tk3 R3 t3 => ?_
    have hn := xnY hp
    have t := (t1.comp t2).comp t3
    exact P W2 .next h3 tk3 R3 t.toX (F.trans t) (V.trans F t) trivial
  · cases e
def xcA (a : xa6 → M PV) : xa6 → M (FR × xa6) := fun fr σ => bnd (a fr σ) fun v σ1 => some ((.ret v, fr), σ1)
def xfR : xa6 → M (FR × xa6) := fun fr σ => some ((.ret .none, fr), σ)
theorem xbB {e : Expr} {p : Pos} {a : xa6 → M PV} (ha : SE S d g ns e a) : SS S d g ns (.Return (some e) p) (xcA a) := by
  intro A env W fr σ s Q E f fr' σ' r gl T R F V e P
  obtain ⟨v, σ1, e1, e⟩ := xah e
  cases e
  exact wpAny_Return_some (ha A env W fr σ s _ E v _ r gl R F V e1 fun W1 vv h1 tk1 R1 t1 x1 => P W1 (.ret vv) h1 tk1 R1 t1.toX (F.trans t1) (V.trans F t1) x1)
theorem xjv {p : Pos} : SS S d g ns (.Return none p) xfR := by
  intro A env W fr σ s Q E f fr' σ' r gl T R F V e P
  cases e
  exact wpAny_Return_none (P W (.ret .none) s.heap s.toks R .refl F V .none)
def xb1 (a : xa6 → M PV) : xa6 → M (FR × xa6) := fun fr σ => bnd (a fr σ) fun v σ1 => some ((.next, fr), σ1)
theorem xaU {e : Expr} {p : Pos} {a : xa6 → M PV} (ha : SE S d g ns e a) (hs : ∀ env, swapsWith e none p.line env = pure false := by intro env; rfl) : SS S d g ns (.Expr e p) (xb1 a) := by
  intro A env W fr σ s Q E f fr' σ' r gl T R F V e P
  obtain ⟨v, σ1, e1, e⟩ := xah e
  cases e
  refine wpAny_Expr_any (ha A env W fr σ s _ E v _ r gl R F V e1 fun W1 vv h1 tk1 R1 t1 x1 => P W1 .next h1 tk1 R1 t1.toX (F.trans t1) (V.trans F t1) trivial) ?_ (hs env)
  unfold interactive; rw [F.kind]; rfl
def xaC : xa6 → M (FR × xa6) := fun fr σ => some ((.next, fr), σ)
def xa5 (a b : xa6 → M (FR × xa6)) : xa6 → M (FR × xa6) := fun fr σ => bnd (a fr σ) fun x σ1 => match x.1 with
  | .next => b x.2 σ1
  | .ret v => some ((.ret v, x.2), σ1)
theorem xae : SB S d g ns [] xaC := by
  intro A env W fr σ s Q E f fr' σ' r gl T R F V e P
  cases e
  exact wpAny_execs_nil (P W .next s.heap s.toks R .refl F V trivial)
theorem xa4 {st sts a b} (ha : SS S d g ns st a) (hb : SB S d g ns sts b) : SB S d g ns (st :: sts) (xa5 a b) := by
  intro A env W fr σ s Q E f fr' σ' r gl T R F V e P
  obtain ⟨⟨f1, fr1⟩, σ1, e1, e⟩ := xah e
  refine wpAny_execs_cons (ha A env W fr σ s _ E f1 fr1 σ1 r gl T R F V e1 fun W1 f' h1 tk1 R1 t1 F1 V1 hf => ?_)
  cases f1 with
  | next =>
    cases f' with
    | next => exact hb A env W1 fr1 σ1 _ Q E f fr' σ' r gl T R1 F1 V1 e (P.next t1)
    | _ => exact hf.elim
  | ret v =>
    cases e
    cases f' with
    | ret vv => exact P W1 (.ret vv) h1 tk1 R1 t1 F1 V1 hf
    | _ => exact hf.elim
def sIf (c : xa6 → M Bool) (a b : xa6 → M (FR × xa6)) : xa6 → M (FR × xa6) := fun fr σ => bnd (c fr σ) fun x σ1 => if x then a fr σ1 else b fr σ1
theorem xbM {c p as bs ec ea eb} (hc : ST S d g ns c ec) (ha : SB S d g ns as ea) (hb : SB S d g ns bs eb) : SS S d g ns (.If c as bs p) (sIf ec ea eb) := by
  intro A env W fr σ s Q E f fr' σ' r gl T R F V e P
  obtain ⟨x, σ1, e1, e⟩ := xah e
  refine wpAny_If (hc A env W fr σ s _ E x σ1 r gl R F V e1 fun W1 h1 tk1 R1 t1 => ?_)
  cases x with
  | true => exact ha A env W1 fr σ1 _ Q E f fr' σ' r gl T R1 (F.trans t1) (V.trans F t1) e (P.next t1.toX)
  | false => exact hb A env W1 fr σ1 _ Q E f fr' σ' r gl T R1 (F.trans t1) (V.trans F t1) e (P.next t1.toX)
def xeq (c : xa6 → M Bool) (b : xa6 → M (FR × xa6)) : Nat → xa6 → M (FR × xa6)
  | 0, _, _ => none
  | n + 1, fr, σ => bnd (c fr σ) fun t σ1 => if t then bnd (b fr σ1) fun x σ2 => (match x.1 with
      | .next => xeq c b n x.2 σ2
      | .ret v => some ((.ret v, x.2), σ2)) else some ((.next, fr), σ1)
theorem xr0 {c p bs ec eb} (n : Nat) (hc : ST S d g ns c ec) (hb : SB S d g ns bs eb) : SS S d g ns (.While c bs [] p) (xeq ec eb n) := by
  intro A env W fr σ s Q E f fr' σ' r gl T R F V e P
  refine wpAny_While (codeAny_whileLoop (fun k s1 => ∃ W1 fr1 σ1 h1 tk1, s1 = { s with heap := h1, toks := tk1 } ∧ Rep S W1 σ1 h1 ∧ xbu (FX env) W σ.next s.heap W1 σ1.next h1 ∧ Frm S env W1 σ1.next h1 ∧ xi9 env W1 σ1.next h1 ns fr1 ∧
    xeq ec eb k fr1 σ1 = some ((f, fr'), σ')) (fun k s1 hI => ?_) n ⟨W, fr, σ, s.heap, s.toks, rfl, R, .refl, F, V, e⟩)
  obtain ⟨W1, fr1, σ1, h1, tk1, rfl, R1, t1, F1, V1, e⟩ := hI
  cases k with
  | zero => cases e
  | succ k =>
    obtain ⟨x, σ2, e1, e⟩ := xah e
    refine hc A env W1 fr1 σ1 _ _ _ x σ2 r gl R1 F1 V1 e1 fun W2 h2 tk2 R2 t2 => ?_
    cases x with
    | true =>
      simp only [if_true] at e ⊢
      obtain ⟨⟨f3, fr3⟩, σ3, e3, e⟩ := xah e
      refine hb A env W2 fr1 σ2 _ _ _ f3 fr3 σ3 r gl T R2 (F1.trans t2) (V1.trans F1 t2) e3 fun W3 f' h3 tk3 R3 t3 F3 V3 hf => ?_
      have t := (t1.comp t2.toX).comp t3
      cases f3 with
      | next =>
        cases f' with
        | next => exact ⟨k, Nat.lt_succ_self k, W3, fr3, σ3, h3, tk3, rfl, R3, t, F3, V3, e⟩
        | _ => exact hf.elim
      | ret v =>
        cases e
        cases f' with
        | ret vv => exact P W3 (.ret vv) h3 tk3 R3 t F3 V3 hf
        | _ => exact hf.elim
    | false =>
      simp only [Bool.false_eq_true, if_false] at e ⊢
      cases e
      exact wpAny_execs_nil (P W2 .next h2 tk2 R2 (t1.comp t2.toX) (F1.trans t2) (V1.trans F1 t2) trivial)
end
section
open PySem PySem.W PyProof.Rows PySem.Calls
variable {S : xfo}
variable {d : Nat} {g : Gn} {ns : List Str}
def xtS (S : xfo) (W : Gh) (n : Nat) (s : Shared) (pv : PV) (σ' : St) (R : Result → Shared → Prop) : Prop :=
  ∀ W' v h' tk, Rep S W' σ' h' → xbu noX W n s.heap W' σ'.next h' → VR W' σ'.next pv v → R (.ok (.ret v)) { s with heap := h', toks := tk }
def xdd (S : xfo) (d : Nat) (fv : Value) (F : List PV → M PV) : Prop :=
  ∀ (A : Around) (W : Gh) (σ : St) (s : Shared) (R : Result → Shared → Prop) (pvs : List PV) (vals : List Value) (pv : PV) (σ' : St),
    xhK d A → Rep S W σ s.heap → VRs W σ.next pvs vals → F pvs σ = some (pv, σ') → xtS S W σ.next s pv σ' R → codeAny (model S.prog S.w) A (.call fv ⟨vals, []⟩) R s
theorem xdd.le {d d' : Nat} {fv F} (h : xdd S d fv F) (hd : d ≤ d') : xdd S d' fv F := fun A W σ s R pvs vals pv σ' r => h A W σ s R pvs vals pv σ' (r.le hd)
def xaT (np k : Nat) (b : xa6 → M (FR × xa6)) : List PV → M PV := fun pvs σ => if pvs.length = np then bnd (b (pvs.map some ++ List.replicate k none) σ) fun x σ1 => match x.1 with
    | .ret v => some (v, σ1)
    | .next => some (.none, σ1) else none
theorem xbu.hide {X : Addr → Prop} {W W1 W' : Gh} {n n1 n' : Nat} {h h1 h' : Heap} (t : xbu noX W n h W1 n1 h1) (u : xbu X W1 n1 h1 W' n' h') (hX : ∀ b o, h.get? b = some o → ¬ X b) : xbu noX W n h W' n' h' where
  nx := Nat.le_trans t.nx u.nx
  ad i hi := (u.ad i (Nat.lt_of_lt_of_le hi t.nx)).trans (t.ad i hi)
  T a v e := u.T a v (t.T a v e)
  fz i hi e := u.fz i (Nat.lt_of_lt_of_le hi t.nx) (t.fz i hi e)
  ext b o e n1 _ := u.ext b o (t.ext b o e n1 (fun q => q)) (fun q => n1 (t.own_back e q)) (hX b o e)
  dom b o e := let ⟨_, e'⟩ := t.dom b o e; u.dom b _ e'
  new := ((t.toX (X := X)).comp u).new
  Tn := ((t.toX (X := X)).comp u).Tn
theorem xnS (kindOf : Str → Option NameKind) (x : Str) (v : Value) : ∀ (l : List (Str × Value)) (m cm : Str → Option Value), (∀ (j k : Nat) (p q : Str × Value), l[j]? = some p → l[k]? = some q → p.1 = q.1 → j = k) → (x, v) ∈ l →
    (kindOf x = some .local → bindL kindOf l m x = some v) ∧ (kindOf x ≠ some .local → bindC kindOf l cm x = some v) := by
  have keep : ∀ (l : List (Str × Value)) (m cm : Str → Option Value), (∀ p ∈ l, p.1 ≠ x) → bindL kindOf l m x = m x ∧ bindC kindOf l cm x = cm x := by
    intro l
    induction l with
    | nil => intro m cm _; exact ⟨rfl, rfl⟩
    | cons p r ih =>
      obtain ⟨y, w⟩ := p
      intro m cm hne
      have h1 : y ≠ x := hne (y, w) (.head _)
      have h2 := fun m' cm' => ih m' cm' fun q hq => hne q (.tail _ hq)
      unfold bindL bindC
      rw [(h2 _ cm).1, (h2 m _).2]
      constructor
      · split
        · show (if x = y then _ else _) = _
          rw [if_neg (Ne.symm h1)]
        · rfl
      · split
        · rfl
        · show (if x = y then _ else _) = _
          rw [if_neg (Ne.symm h1)]
  intro l
  induction l with
  | nil => intro m cm _ h; cases h
  | cons p r ih =>
    intro m cm hnd hm
    have hr : ∀ (j k : Nat) (p q : Str × Value), r[j]? = some p → r[k]? = some q → p.1 = q.1 → j = k := fun j k p q h1 h2 h3 => by
      have := hnd (j + 1) (k + 1) p q (by simpa using h1) (by simpa using h2) h3
      omega
    rcases List.mem_cons.mp hm with e | hm2
    · subst e
      have hne : ∀ q ∈ r, q.1 ≠ x := fun q hq z => by
        obtain ⟨j, hj⟩ := List.mem_iff_getElem?.mp hq
        have := hnd 0 (j + 1) (x, v) q rfl (by simpa using hj) z.symm
        omega
      unfold bindL bindC
      constructor
      · intro hl
        rw [(keep r _ cm hne).1, if_pos hl]; exact if_pos rfl
      · intro hl
        rw [(keep r m _ hne).2, if_neg hl]; exact if_pos rfl
    · obtain ⟨y, w⟩ := p
      unfold bindL bindC
      exact ⟨fun hl => (ih _ cm hr hm2).1 hl, fun hl => (ih m _ hr hm2).2 hl⟩
theorem xhK.deeper {A : Around} {env : Env} (r : xhK (d + 1) A) : xhK d (A.deeper env) :=
  ⟨r.handled, by have := r.depth; show A.depth + 1 + d < 690; omega, by have := r.units; show A.units + 3 + 8 * d + 100 < 9900; omega⟩
theorem xhK.lt {A : Around} (r : xhK d A) : A.depth < recursionLimit := by have := r.depth; show A.depth < 1000; omega
structure xuj (S : xfo) (f : Addr) (np : Nat) (ns : List Str) (body : List Stmt) (scope : Scope) : Prop where
  ex : ∃ nm qual params doc pm an cdv ct oc od osl, S.K.lookup f = some ⟨oc, od, .func (fnOf nm qual params body scope .none .none doc pm an cdv ct), osl⟩ ∧ codeIn S.K cdv qual = true ∧
    (∀ vals, vals.length = np → bindArgs (fnOf nm qual params body scope .none .none doc pm an cdv ct) ⟨vals, []⟩ = pure ((ns.take np).zip vals))
def xlF (scope : Scope) (g : Gn) (ns : List Str) : Bool :=
  ns.all (fun x => scope.names.lookup x == some .local || scope.names.lookup x == some .cell) && g.glob.all (fun x => scope.names.lookup x == some .globalImplicit) && g.cell.all (fun x => scope.names.lookup x == some .cell) && decide ns.Nodup &&
  !scope.isCoroutine && !scope.isGenerator && (scope.kind == .function)
theorem xaS {np k : Nat} {ns : List Str} {body : List Stmt} {scope : Scope} {f : Addr} {b : xa6 → M (FR × xa6)} (H : xuj S f np ns body scope) (hok : xlF scope g ns = true) (hb : SB S d g ns body b) :
    xdd S (d + 1) (.ref f) (xaT np k b) := by
  intro A W σ s R pvs vals pv σ' r R0 hv e P
  unfold xaT at e
  split at e
  case isFalse => cases e
  rename_i hlen
  obtain ⟨⟨fl, fr'⟩, σ1, e1, e⟩ := xah e
  obtain ⟨nm, qual, params, doc, pm, an, cdv, ct, oc, od, osl, look, hcd, hbind⟩ := H.ex
  simp only [xlF, Bool.and_eq_true, Bool.not_eq_true', decide_eq_true_eq, List.all_eq_true, Bool.or_eq_true, beq_iff_eq] at hok
  obtain ⟨⟨⟨⟨⟨⟨hl, hg⟩, hgc⟩, hnd⟩, hco⟩, hgen⟩, hkf⟩ := hok
  have hinj : ∀ (j k : Nat) (x : Str), ns[j]? = some x → ns[k]? = some x → j = k := fun j k x h1 h2 => by
    have hj : j < ns.length := (List.getElem?_eq_some_iff.mp h1).1
    exact (List.getElem?_inj hj hnd).mp (h1.trans h2.symm)
  have hvl : vals.length = np := hv.1.symm.trans hlen
  have hz : ∀ (j : Nat) (p : Str × Value), ((ns.take np).zip vals)[j]? = some p → ns[j]? = some p.1 ∧ vals[j]? = some p.2 := by
    intro j p h
    rw [List.getElem?_zip_eq_some] at h
    refine ⟨?_, h.2⟩
    have h1 := h.1
    rw [List.getElem?_take] at h1
    split at h1
    · exact h1
    · cases h1
  refine codeAny_call_cells (fd := fnOf nm qual params body scope .none .none doc pm an cdv ct) (body := body) r.lt ((S.X.keeps R0.base) _ _ look) rfl (S.T.nolimit.keeps R0.base) (codeRec_of (S.X.keeps R0.base) hcd) rfl (hbind vals hvl) rfl (fun x hx => ?_) (fun s₁ C => ?_) hco hgen hkf
  · obtain ⟨j, hj⟩ := List.mem_iff_getElem?.mp hx
    rcases hl x.1 (List.mem_of_getElem? (hz j x hj).1) with q | q
    · exact .inl q
    · exact .inr ⟨q, cellsFrom_some _ _ _ (.inl q)⟩
  obtain ⟨h₁, tk, rfl, keep⟩ := C.done
  obtain ⟨R1, t1⟩ := R0.keep keep
  generalize henv : callEnvC (fnOf nm qual params body scope .none .none doc pm an cdv ct) s.heap.objs.size f = env at C ⊢
  have hsc : env.scope = scope := by rw [← henv]; rfl
  have hloc : env.locals = s.heap.objs.size := by rw [← henv]; rfl
  have hko : ∀ x, env.kindOf x = scope.names.lookup x := fun x => by rw [← henv]; rfl
  have hcel : env.cells = cellsFrom (s.heap.objs.size + 1) scope.names [] := by rw [← henv]; rfl
  have new : ∀ b, s.heap.objs.size ≤ b → s.heap.get? b = none := fun b hb => Heap.get?_none_of_le hb
  have newOwn : ∀ b, s.heap.objs.size ≤ b → ¬ All W σ.next b := fun b hb q => by obtain ⟨o, ho⟩ := R0.allSome q; rw [new b hb] at ho; cases ho
  have newBase : ∀ b, s.heap.objs.size ≤ b → S.h₀.get? b = none := fun b hb => by
    cases q : S.h₀.get? b with
    | none => rfl
    | some o => have := R0.base b o q; rw [new b hb] at this; cases this
  have hcl : ∀ x c, env.cells.lookup x = some c → s.heap.objs.size < c := fun x c h => by
    have := C.above x c (mem_of_lookup h); rw [hloc] at this; exact this
  have F1 : Frm S env W σ.next h₁ := ⟨by rw [hsc]; exact hkf, by rw [← henv]; rfl, by rw [← henv]; rfl, ⟨_, C.toInCall.ns⟩, newOwn _ (by rw [hloc]; exact Nat.le_refl _), newBase _ (by rw [hloc]; exact Nat.le_refl _),
    fun x c h => ⟨⟨_, C.cell x c h⟩, newOwn _ (Nat.le_of_lt (hcl x c h)), newBase _ (Nat.le_of_lt (hcl x c h))⟩,
    fun x y c h1 h2 => name_of_addr C.apart (mem_of_lookup h1) (mem_of_lookup h2)⟩
  have V1 : xi9 env W σ.next h₁ ns (pvs.map some ++ List.replicate k none) := by
    intro j x pv' hj hp
    rcases Nat.lt_or_ge j pvs.length with q | q
    · rw [List.getElem?_append_left (by simpa using q)] at hp
      rw [List.getElem?_map] at hp
      obtain ⟨pv2, hp2, e2⟩ := Option.map_eq_some_iff.mp hp
      cases e2
      obtain ⟨v, hv1, hv2⟩ := hv.get hp2
      refine ⟨v, hv2, ?_⟩
      have hm : (x, v) ∈ (ns.take np).zip vals := by
        refine List.mem_of_getElem? (i := j) ?_
        rw [List.getElem?_zip_eq_some, List.getElem?_take, if_pos (by omega)]
        exact ⟨hj, hv1⟩
      have B := xnS env.kindOf x v ((ns.take np).zip vals) (fun _ => none) (fun _ => none) (fun j k p q h1 h2 h3 => hinj j k p.1 (hz j p h1).1 (h3 ▸ (hz k q h2).1)) hm
      rcases hl x (List.mem_of_getElem? hj) with q | q
      · have hq : env.kindOf x = some .local := (hko x).trans q
        exact .inl ⟨hq, _, C.toInCall.ns, B.1 hq⟩
      · have hq : env.kindOf x = some .cell := (hko x).trans q
        obtain ⟨c, hc⟩ := Option.isSome_iff_exists.mp (cellsFrom_some (x := x) scope.names (s.heap.objs.size + 1) [] (.inl q))
        rw [← hcel] at hc
        refine .inr ⟨.inl hq, c, hc, ?_⟩
        rw [← B.2 (by rw [hq]; decide)]
        exact C.cell x c hc
    · rw [List.getElem?_append_right (by simpa using q)] at hp
      have := List.eq_of_mem_replicate (List.mem_of_getElem? hp)
      cases this
  have T1 : Sto env ns := ⟨hinj, fun j x hj => by
    rcases hl x (List.mem_of_getElem? hj) with q | q
    · exact .inl ((hko x).trans q)
    · obtain ⟨c, hc⟩ := Option.isSome_iff_exists.mp (cellsFrom_some (x := x) scope.names (s.heap.objs.size + 1) [] (.inl q))
      exact .inr ⟨(hko x).trans q, c, hcel ▸ hc⟩⟩
  have G1 : GL g env := ⟨fun x hx => (hko x).trans (hg x hx), fun x hx => by
    obtain ⟨c, hc⟩ := Option.isSome_iff_exists.mp (cellsFrom_some (x := x) scope.names (s.heap.objs.size + 1) [] (.inl (hgc x hx)))
    exact ⟨(hko x).trans (hgc x hx), c, hcel ▸ hc⟩⟩
  refine hb (A.deeper env) env W _ σ _ _ _ fl fr' σ1 r.deeper G1 T1 R1 F1 V1 e1 fun W2 f' h2 tk2 R2 t2 F2 V2 hf => ?_
  have t : xbu noX W σ.next s.heap W2 σ1.next h2 := t1.hide t2 fun b o hbo hx => by
    have hlt := Heap.lt_size hbo
    rcases hx with q | ⟨x, q⟩
    · rw [hloc] at q; exact Nat.lt_irrefl _ (q ▸ hlt)
    · exact Nat.lt_asymm hlt (hcl x b q)
  cases fl with
  | next =>
    cases e
    cases f' with
    | next => exact P W2 .none h2 tk2 R2 t .none
    | _ => exact hf.elim
  | ret v =>
    cases e
    cases f' with
    | ret vv => exact P W2 vv h2 tk2 R2 t hf
    | _ => exact hf.elim
def xhr (c : Nat) (Fi : List PV → M PV) : List PV → M PV := fun pvs σ => bnd (Fi (.ref σ.next :: pvs) (σ.push (.inst c []))) fun v σ1 => match v with
  | .none => some (.ref σ.next, σ1)
  | _ => none
theorem xhK.make {A : Around} {C : Addr} {vals : List Value} (r : xhK (d + 1) A) : xhK d (A.under (.builtin "type.__call__" ⟨.ref C :: vals, []⟩)) :=
  ⟨r.handled, by have := r.depth; rw [depth_under_make]; omega, by
    have := r.units
    show A.units + 1 + 8 * d + 100 < 9900
    omega⟩
theorem xgt {c : Nat} {fI : Addr} {Fi : List PV → M PV} (hm : makesIn S.K (S.cadr c) = true) (hi : findIn S.K (.ref (S.cadr c)) "__init__" = some (some (.ref fI))) (hf : typeIn S.K (.ref fI) = some (.type "function"))
    (hF : xdd S d (.ref fI) Fi) : xdd S (d + 1) (.ref (S.cadr c)) (xhr c Fi) := by
  intro A W σ s R pvs vals pv σ' r R0 hv e P
  obtain ⟨v, σ1, e1, e⟩ := xah e
  split at e
  case h_2 => cases e
  cases e
  obtain ⟨hh, gg, dd, t, os⟩ := s
  have X := S.X.keeps R0.base
  have n1 : hh.get? (hh.objs.size + 1) = none := Heap.get?_none_of_le (Nat.le_succ _)
  have n2 : hh.get? hh.objs.size = none := Heap.get?_none_of_le (Nat.le_refl _)
  have k : ∀ b o, hh.get? b = some o → ((hh.push emptyDict).push (instObj (S.cadr c) hh.objs.size)).get? b = some o := fun b o e => Heap.get?_push_of_some _ (Heap.get?_push_of_some _ e)
  have hd : ((hh.push emptyDict).push (instObj (S.cadr c) hh.objs.size)).get? hh.objs.size = some emptyDict := Heap.get?_push_of_some _ (Heap.get?_push_size _ rfl)
  have hx : ((hh.push emptyDict).push (instObj (S.cadr c) hh.objs.size)).get? (hh.objs.size + 1) = some (instObj (S.cadr c) hh.objs.size) := by
    have := Heap.get?_push_size (hh.push emptyDict) (o := instObj (S.cadr c) hh.objs.size) rfl
    rwa [Heap.size_push] at this
  obtain ⟨R1, t1⟩ := R0.alloc (h' := (hh.push emptyDict).push (instObj (S.cadr c) hh.objs.size)) k (p := (hh.objs.size + 1, hh.objs.size)) (o' := .inst c []) (Nat.le_succ _) (Nat.le_refl _)
    ⟨Nat.succ_ne_self _, hx, fun _ => none, ⟨_, #[], 0, hd, rfl, (fun _ h => by simp at h), fun _ => rfl⟩, (fun j x pv' _ h => by simp at h), (fun _ _ => rfl), (fun o es ep ho hdd => by rw [hd] at ho; cases ho; cases hdd; exact Nat.le_refl _), by simp⟩
  refine make_core (makes_of X hm) (looks_findIn X hi) (fun self => bind_fn X self hf) (.inl rfl) ?_
  have hvr : VR (W.add σ.next (hh.objs.size + 1, hh.objs.size)) (σ.next + 1) (.ref σ.next) (.ref (hh.objs.size + 1)) := by
    have := VR.ref (W := W.add σ.next (hh.objs.size + 1, hh.objs.size)) (n := σ.next + 1) σ.next (Nat.lt_succ_self _)
    rwa [show ((W.add σ.next (hh.objs.size + 1, hh.objs.size)).ad σ.next) = (hh.objs.size + 1, hh.objs.size) from if_pos rfl] at this
  refine hF _ _ (σ.push (.inst c [])) _ _ (.ref σ.next :: pvs) _ .none σ' r.make R1 (.cons hvr (t1.vrs hv)) e1 fun W2 v2 h2 tk2 R2 t2 x2 => ?_
  cases x2
  refine ⟨rfl, ?_⟩
  exact P W2 _ h2 tk2 R2 (t1.comp t2) (t2.vr hvr)
def xa8 : xa6 → M (List PV) := fun _ σ => some ([], σ)
def xa1 (a : xa6 → M PV) (b : xa6 → M (List PV)) : xa6 → M (List PV) := fun fr σ => bnd (a fr σ) fun x σ1 => bnd (b fr σ1) fun xs σ2 => some (x :: xs, σ2)
theorem xaa : SEs S d g ns [] xa8 := by
  intro A env W fr σ s Q E pv σ' pos r gl R F V e P
  cases e
  exact spliced_nil (P W [] s.heap s.toks R .refl .nil)
theorem xa2 {e : Expr} {es : List Expr} {a b} (ha : SE S d g ns e a) (hb : SEs S d g ns es b) (hst : ∀ env, starEach (e :: es) env = (false, eval e env) :: starEach es env := by intro env; rfl) : SEs S d g ns (e :: es) (xa1 a b) := by
  intro A env W fr σ s Q E pv σ' pos r gl R F V e P
  obtain ⟨x, σ1, e1, e⟩ := xah e
  obtain ⟨xs, σ2, e2, e⟩ := xah e
  cases e
  rw [hst env]
  show wpAny _ _ (spliced ((false, eval _ env) :: backTo pos (starEach es env))) _ _ _
  refine spliced_cons (ha A env W fr σ s _ E x _ r gl R F V e1 fun W1 v h1 tk1 R1 t1 x1 => ?_)
  refine hb A env W1 fr σ1 _ _ E xs _ pos r gl R1 (F.trans t1) (V.trans F t1) e2 fun W2 vs h2 tk2 R2 t2 x2 => ?_
  exact P W2 (v :: vs) h2 tk2 R2 (t1.comp t2) (.cons (t2.vr x1) x2)
theorem xnn {A : Around} {env : Env} {W : Gh} {σ : St} {s : Shared} {Q : Value → Shared → Prop} {E : Value → Shared → Prop} {x : Str} {p : Pos} {v : Value} {M : Model} (hx : x ∈ g.glob) (gl : GL g env) (R : Rep S W σ s.heap) (F : Frm S env W σ.next s.heap)
    (hglob : nsIn S.K mainGlobals x = some (some v)) (hb : xdH x = false) (q : Q v s) : wpAny M A (eval (.Name x p) env) Q E s := by
  unfold xdH at hb
  rw [Bool.or_eq_false_iff] at hb
  exact Name_function_global F.kind (gl.glob x hx) (loadGlobal_global (env := env) (by rw [F.glob]; exact S.T.g.keeps R.base) (mg_of S.X S.T.g hglob) q) hb.1
theorem xnB {A : Around} {env : Env} {W : Gh} {σ : St} {s : Shared} {Q : Value → Shared → Prop} {E : Value → Shared → Prop} {x : Str} {p : Pos} {v : Value} {M : Model} (hx : x ∈ g.glob) (gl : GL g env) (R : Rep S W σ s.heap) (F : Frm S env W σ.next s.heap)
    (hglob : nsIn S.K mainGlobals x = some none) (hv : bootBuiltins x = some v) (hn : x ≠ "__name__") (hb : xdH x = false) (q : Q v s) : wpAny M A (eval (.Name x p) env) Q E s := by
  unfold xdH at hb
  rw [Bool.or_eq_false_iff] at hb
  exact Name_function_global F.kind (gl.glob x hx) (loadGlobal_builtin (env := env) (by rw [F.glob]; exact S.T.g.keeps R.base) (mg_none_of S.X S.T.g hglob) (by rw [F.bltn]; exact S.T.b.keeps R.base) ((S.T.builtins x hn).trans hv) q) hb.1
def xad (F : List PV → M PV) (m : xa6 → M (List PV)) : xa6 → M PV := fun fr σ => bnd (m fr σ) fun vs σ1 => F vs σ1
structure GFn (S : xfo) (d : Nat) (x : Str) (F : List PV → M PV) : Prop where
  ex : ∃ fv, nsIn S.K mainGlobals x = some (some fv) ∧ keepIn S.K fv = true ∧ xdd S d fv F
theorem xas {x : Str} {p pos : Pos} {e : Expr} {es : List Expr} {m : xa6 → M (List PV)} {F : List PV → M PV} {d' : Nat} (H : GFn S d' x F) (hx : x ∈ g.glob) (hm : SEs S d g ns (e :: es) m) (hd : d' ≤ d := by omega) (hb : xdH x = false := by decide +kernel)
    (he : ∀ env, starEach (e :: es) env = (false, eval e env) :: starEach es env := by intro env; rfl) (hplain : ∀ env, (backTo pos (starEach es env)).any (·.1) = false := by intro env; rfl) :
    SE S d g ns (.Call (.Name x p) (e :: es) [] pos) (xad F m) := by
  intro A env W fr σ s Q E pv σ' r gl R Fm V e P
  obtain ⟨vs, σ1, e1, e⟩ := xah e
  obtain ⟨fv, h1, h2, h3⟩ := H.ex
  refine Call_Name rfl (xnn hx gl R Fm h1 hb ?_)
  refine callWith_K S.X h2 (hm A env W fr σ s _ E vs σ1 pos r gl R Fm V e1 fun W1 vals h1 tk1 R1 t1 x1 => ⟨S.X.keeps R1.base, ?_⟩) (he env) (hplain env)
  exact wpAny_call (h3 A W1 σ1 _ _ vs vals pv σ' (r.le hd) R1 x1 e fun W2 v h2 tk2 R2 t2 x2 => P W2 v h2 tk2 R2 (t1.comp t2) x2)
theorem xqQ {x : Str} {p pos : Pos} {F : List PV → M PV} {d' : Nat} (H : GFn S d' x F) (hx : x ∈ g.glob) (hd : d' ≤ d := by omega) (hb : xdH x = false := by decide +kernel) :
    SE S d g ns (.Call (.Name x p) [] [] pos) (xad F xa8) := by
  intro A env W fr σ s Q E pv σ' r gl R Fm V e P
  obtain ⟨vs, σ1, e1, e⟩ := xah e
  cases e1
  obtain ⟨fv, h1, h2, h3⟩ := H.ex
  refine Call_Name rfl (xnn hx gl R Fm h1 hb ?_)
  refine callWith_K0 (S.X.keeps R.base) h2 ?_
  exact wpAny_call (h3 A W σ s _ [] [] pv σ' (r.le hd) R .nil e fun W2 v h2 tk2 R2 t2 x2 => P W2 v h2 tk2 R2 t2 x2)
def xrq : xa6 → M (FR × xa6) := fun _ _ => none
theorem xqd {e : Stmt} : SS S d g ns e xrq := by
  intro A env W fr σ s Q E f fr' σ' r gl T R F V e P; cases e
end
section
open PySem PySem.W PyProof.Rows PySem.Calls
variable {S : xfo}
variable {d : Nat} {g : Gn} {ns : List Str}
theorem VRs.toL {W : Gh} {n : Nat} {vs : List PV} {vals : List Value} (h : VRs W n vs vals) : VRs W n vs vals.toArray.toList := by simpa using h
theorem Rep.newList {W : Gh} {σ : St} {h h' : Heap} (R : Rep S W σ h) {a : Addr} {vs : List PV} {vals : List Value} (hk : ∀ b o, h.get? b = some o → h'.get? b = some o) (ha : h.objs.size ≤ a) (hl : h'.PlainList a vals.toArray)
    (hv : VRs W σ.next vs vals) (hz : vs.length ≤ 1000) : Rep S (W.add σ.next (a, a)) (σ.push (.list vs)) h' ∧ xbu noX W σ.next h (W.add σ.next (a, a)) (σ.next + 1) h' ∧ VR (W.add σ.next (a, a)) (σ.next + 1) (.ref σ.next) (.ref a) := by
  have had : ∀ j, j < σ.next → (W.add σ.next (a, a)).ad j = W.ad j := fun j hj => if_neg (Nat.ne_of_lt hj)
  obtain ⟨R', t'⟩ := R.alloc hk (p := (a, a)) (o' := .list vs) ha ha ⟨rfl, _, hl, (hv.mono (Nat.le_succ _) had fun _ _ e => e).toL, hz⟩
  refine ⟨R', t', ?_⟩
  have := VR.ref (W := W.add σ.next (a, a)) (n := σ.next + 1) σ.next (Nat.lt_succ_self _)
  rwa [show (W.add σ.next (a, a)).ad σ.next = (a, a) from if_pos rfl] at this
theorem Rep.newDict {W : Gh} {σ : St} {h h' : Heap} (R : Rep S W σ h) {a : Addr} (hk : ∀ b o, h.get? b = some o → h'.get? b = some o) (ha : h.objs.size ≤ a) (hl : h'.DictOf (intKind S.prog S.w) a []) :
    Rep S (W.add σ.next (a, a)) (σ.push (.dict [])) h' ∧ xbu noX W σ.next h (W.add σ.next (a, a)) (σ.next + 1) h' ∧ VR (W.add σ.next (a, a)) (σ.next + 1) (.ref σ.next) (.ref a) := by
  obtain ⟨R', t'⟩ := R.alloc hk (p := (a, a)) (o' := .dict []) ha ha ⟨rfl, [], hl, rfl, .nil, by simp⟩
  refine ⟨R', t', ?_⟩
  have := VR.ref (W := W.add σ.next (a, a)) (n := σ.next + 1) σ.next (Nat.lt_succ_self _)
  rwa [show (W.add σ.next (a, a)).ad σ.next = (a, a) from if_pos rfl] at this
def xnM (vs : List PV) (σ : St) : Option (PV × St) := if vs.length ≤ 1000 then some (.ref σ.next, σ.push (.list vs)) else none
def xc8 (m : xa6 → M (List PV)) : xa6 → M PV := fun fr σ => bnd (m fr σ) fun vs σ1 => xnM vs σ1
theorem xem {vs : List PV} {σ σ' : St} {pv : PV} (h : xnM vs σ = some (pv, σ')) : vs.length ≤ 1000 ∧ pv = .ref σ.next ∧ σ' = σ.push (.list vs) := by
  unfold xnM at h
  split at h
  · cases h; exact ⟨‹_›, rfl, rfl⟩
  · cases h
theorem xcD {es : List Expr} {p : Pos} {m : xa6 → M (List PV)} (hm : SEs S d g ns es m) : SE S d g ns (.List es p) (xc8 m) := by
  intro A env W fr σ s Q E pv σ' r gl R F V e P
  obtain ⟨vs, σ1, e1, e⟩ := xah e
  obtain ⟨hz, rfl, rfl⟩ := xem e
  refine List_ (hm A env W fr σ s _ E vs σ1 p r gl R F V e1 fun W1 vals h1 tk1 R1 t1 x1 => ?_)
  have hlen := x1.1
  refine wpAny_newObj_type ?_ (by show vals.toArray.size ≤ sizeLine; rw [List.size_toArray, sizeLine_eq]; omega)
  obtain ⟨R2, t2, x2⟩ := R1.newList (fun b o e => Heap.get?_push_of_some _ e) (Nat.le_refl _) ⟨0, Heap.get?_push_size _ rfl⟩ x1 hz
  exact P _ _ _ tk1 R2 (t1.comp t2) x2
def xeJ (m : xa6 → M (List PV)) : xa6 → M PV := fun fr σ => bnd (m fr σ) fun vs σ1 => if vs.length ≤ 1000 then some (.tup vs, σ1) else none
theorem xey {es : List Expr} {k : Nat} {p : Pos} {m : xa6 → M (List PV)} (hm : SEs S d g ns es m) : SE S d g ns (.Tuple es k p) (xeJ m) := by
  intro A env W fr σ s Q E pv σ' r gl R F V e P
  obtain ⟨vs, σ1, e1, e⟩ := xah e
  split at e
  case isFalse => cases e
  rename_i hz
  cases e
  refine Tuple_ (hm A env W fr σ s _ E vs _ p r gl R F V e1 fun W1 vals h1 tk1 R1 t1 x1 => ?_)
  have hlen := x1.1
  refine wpAny_newObj_type ?_ (by show vals.toArray.size ≤ sizeLine; rw [List.size_toArray, sizeLine_eq]; omega)
  obtain ⟨R2, t2⟩ := R1.tuple (o := xtV vals) (fun b o e => Heap.get?_push_of_some _ e) (Heap.get?_none_of_le (Nat.le_refl _)) (Heap.get?_push_size h1 rfl) (.inl ⟨_, rfl⟩)
  refine P _ _ _ tk1 R2 (t1.comp t2) (.tup vs vals _ ?_ hlen fun k pv v a b => t2.vr (x1.2 k pv v a b))
  exact if_pos rfl
def xkr : xa6 → M PV := fun fr σ => some (.ref σ.next, σ.push (.dict []))
theorem xiM {p : Pos} : SE S d g ns (.Dict [] [] p) xkr := by
  intro A env W fr σ s Q E pv σ' r gl R F V e P
  cases e
  refine wpAny_Dict_empty ?_
  obtain ⟨R2, t2, x2⟩ := R.newDict (fun b o e => Heap.get?_push_of_some _ e) (Nat.le_refl _) (Heap.DictOf.new s.heap)
  exact P _ _ _ s.toks R2 t2 x2
def xil (es : List (Int × PV)) (k : Int) : Option PV := (es.find? fun kv => kv.1 = k).map (·.2)
def xhf (x y : PV) (σ : St) : Option PV := match x, y with
  | .ref i, .int k => (match σ.objs i with
    | .list vs => if 0 ≤ k then vs[k.toNat]? else none
    | .dict es => xil es k
    | .fdict es => xil es k
    | _ => none)
  | .tup vs, .int k => if 0 ≤ k ∧ k < 1000 then vs[k.toNat]? else none
  | _, _ => none
theorem xiN {W : Gh} {n : Nat} : ∀ {es : List (Int × PV)} {kvs : List (Int × Value)}, es.map (·.1) = kvs.map (·.1) → VRs W n (es.map (·.2)) (kvs.map (·.2)) → ∀ {k : Int} {pv : PV}, xil es k = some pv → ∃ v, valueAt kvs k = some v ∧ VR W n pv v := by
  intro es
  induction es with
  | nil => intro kvs _ _ k pv h; cases h
  | cons e es ih =>
    intro kvs h1 h2 k pv h
    cases kvs with
    | nil => cases h1
    | cons kv kvs =>
      simp only [List.map_cons, List.cons.injEq] at h1
      have h3 : VR W n e.2 kv.2 := h2.2 0 _ _ rfl rfl
      have h4 : VRs W n (es.map (·.2)) (kvs.map (·.2)) := ⟨by have := h2.1; simpa using this, fun j a b p q => h2.2 (j + 1) a b (by simpa using p) (by simpa using q)⟩
      unfold xil at h
      unfold valueAt
      rw [List.find?_cons] at h ⊢
      by_cases q : e.1 = k
      · have q' : kv.1 = k := h1.1 ▸ q
        simp only [q, decide_true] at h
        simp only [q', decide_true]
        cases h
        exact ⟨_, rfl, h3⟩
      · have q' : ¬ kv.1 = k := h1.1 ▸ q
        simp only [q, decide_false] at h
        simp only [q', decide_false]
        exact ih h1.2 h4 h
theorem xqp {A : Around} {W : Gh} {σ : St} {s : Shared} {Q : Value → Shared → Prop} {E : Value → Shared → Prop} {x y pv : PV} {vx vy : Value} {value slice : Expr} (R : Rep S W σ s.heap) (hx : VR W σ.next x vx) (hy : VR W σ.next y vy)
    (h : xhf x y σ = some pv) (P : xhI S W σ.next s pv σ Q) (hs : ∀ o i, subscripted slice false o i = operate [o, i] (getItem o i)) : wpAny (model S.prog S.w) A (subscriptTail value slice vx vy) Q E s := by
  unfold xhf at h
  split at h
  · rename_i i k
    cases hy with
    | int k t =>
    cases hx with
    | ref i hi =>
    have O := R.obj i hi
    split at h
    · rename_i vs ho
      rw [ho] at O
      obtain ⟨_, vals, hl, hv, hz⟩ := O
      split at h
      · rename_i h0
        obtain ⟨v, h1, h2⟩ := hv.get h
        have hk : k.toNat < vs.length := (List.getElem?_eq_some_iff.mp h).1
        refine tail_any hl.isList.typeIs slot_list_getitem.lookup (wpAny_getItem_list hl.isList h0 (by omega) (by rw [← Array.getElem?_toList]; exact h1) ?_) (hs _ _)
        exact P W v s.heap s.toks R .refl h2
      · cases h
    · rename_i es ho
      rw [ho] at O
      obtain ⟨_, kvs, hl, hkeys, hv, hz⟩ := O
      obtain ⟨v, h1, h2⟩ := xiN hkeys hv h
      refine tail_any hl.typeIs slot_dict_getitem.lookup (wpAny_getItem_of (intKind_is S.prog S.w k t) hl.mapOf h1 ?_) (hs _ _)
      exact P W v s.heap _ R .refl h2
    · rename_i es ho
      rw [ho] at O
      obtain ⟨_, kvs, hl, hkeys, hv, hz⟩ := O
      obtain ⟨v, h1, h2⟩ := xiN hkeys hv h
      refine tail_any hl.typeIs slot_dict_getitem.lookup (wpAny_getItem_of (intKind_is S.prog S.w k t) hl.mapOf h1 ?_) (hs _ _)
      exact P W v s.heap _ R .refl h2
    · cases h
  · rename_i vs k
    cases hy with
    | int k t =>
    cases hx with
    | tup vs vals a h1 h2 h3 =>
    split at h
    · rename_i h0
      have ht : IsTup s.heap a vals.toArray := ⟨_, (R.tup a _ h1).1, rfl, 0, rfl⟩
      obtain ⟨v, e1, e2⟩ := VRs.get (W := W) (n := σ.next) ⟨h2, h3⟩ h
      have hk : k.toNat < vs.length := (List.getElem?_eq_some_iff.mp h).1
      refine tail_any (T := "tuple") (let ⟨o, h, c, _⟩ := ht; ⟨o, h, c⟩) PyProof.Rows.slot_tuple_getitem.lookup (getItem_tuple ht (by omega) (by omega) (seqIndex_of h0.1 (by rw [List.size_toArray]; omega)) (x := v) (by rw [List.getElem?_toArray]; exact e1) ?_) (hs _ _)
      exact P W v s.heap s.toks R .refl e2
    · cases h
  · cases h
def xbE (a b : xa6 → M PV) : xa6 → M PV := fun fr σ => bnd (a fr σ) fun x σ1 => bnd (b fr σ1) fun y σ2 => match xhf x y σ2 with
  | some v => some (v, σ2)
  | none => none
theorem xbN {v i : Expr} {p : Pos} {a b} (ha : SE S d g ns v a) (hb : SE S d g ns i b) (hs : ∀ o j, subscripted i false o j = operate [o, j] (getItem o j) := by intros; rfl) : SE S d g ns (.Subscript v i p) (xbE a b) := by
  intro A env W fr σ s Q E pv σ' r gl R F V e P
  obtain ⟨x, σ1, e1, e⟩ := xah e
  obtain ⟨y, σ2, e2, e⟩ := xah e
  split at e
  case h_2 => cases e
  rename_i z hz
  cases e
  refine Subscript_ (ha A env W fr σ s _ E x _ r gl R F V e1 fun W1 vx h1 tk1 R1 t1 x1 => ?_)
  refine hb A env W1 fr _ _ _ E y _ r gl R1 (F.trans t1) (V.trans F t1) e2 fun W2 vy h2 tk2 R2 t2 x2 => ?_
  exact xqp R2 (t2.vr x1) x2 hz ((P.next t1).next t2) hs
def xpl : PV → PV → M PV := fun x y σ => match x, y with
  | .ref i, .ref j => (match σ.objs i, σ.objs j with
    | .list vs, .list ws => xnM (vs ++ ws) σ
    | _, _ => none)
  | _, _ => none
theorem VRs.append {W : Gh} {n : Nat} {vs ws : List PV} {a b : List Value} (h : VRs W n vs a) (k : VRs W n ws b) : VRs W n (vs ++ ws) (a ++ b) := by
  refine ⟨by rw [List.length_append, List.length_append, h.1, k.1], fun j pv v h1 h2 => ?_⟩
  rcases Nat.lt_or_ge j vs.length with q | q
  · rw [List.getElem?_append_left q] at h1
    rw [List.getElem?_append_left (h.1 ▸ q)] at h2
    exact h.2 j pv v h1 h2
  · rw [List.getElem?_append_right q] at h1
    rw [List.getElem?_append_right (h.1 ▸ q), ← h.1] at h2
    exact k.2 _ pv v h1 h2
theorem xqt : xsp S d .Add xpl := by
  intro A W σ s Q E x y vx vy pv σ' r R hx hy e P
  unfold xpl at e
  split at e
  case h_2 => cases e
  split at e
  case h_2 => cases e
  rename_i i j _ _ vs ws hi hj
  obtain ⟨hz, rfl, rfl⟩ := xem e
  cases hx with
  | ref i hi' =>
  cases hy with
  | ref j hj' =>
  have O1 := R.obj i hi'
  have O2 := R.obj j hj'
  rw [hi] at O1
  rw [hj] at O2
  obtain ⟨_, va, ⟨n1, hl1⟩, hv1, _⟩ := O1
  obtain ⟨_, vb, ⟨n2, hl2⟩, hv2, _⟩ := O2
  have hlen : va.size + vb.size ≤ 1000 := by
    have h1 : vs.length = va.size := by have := hv1.1; simpa using this
    have h2 : ws.length = vb.size := by have := hv2.1; simpa using this
    rw [List.length_append] at hz
    omega
  refine concat_meets ⟨_, hl1, rfl⟩ ⟨_, hl2, rfl⟩ noFill_list_add seq_list_add PySem.F.slot_list_add PySem.F.entry_list_add (PySem.F.args_list_add_2 _ _) (list_addW (W.ad i).1 (W.ad j).1 va vb n1 n2 none none #[] #[] (by rw [sizeLine_eq]; omega)) ⟨hl1, hl2, ?_⟩
  obtain ⟨R2, t2, x2⟩ := R.newList (vs := vs ++ ws) (vals := va.toList ++ vb.toList) (h' := s.heap.push { cls := .type "list", data := .seq (va ++ vb) }) (fun b o e => Heap.get?_push_of_some _ e) (Nat.le_refl _) ⟨0, by
    rw [show (va.toList ++ vb.toList).toArray = va ++ vb by simp]; exact Heap.get?_push_size _ rfl⟩ (hv1.append hv2) hz
  exact P _ _ _ s.toks R2 t2 x2
def BOK (S : xfo) (d : Nat) (fv : Value) (F : List PV → M PV) : Prop :=
  ∀ (A : Around) (W : Gh) (σ : St) (s : Shared) (Q : Value → Shared → Prop) (E : Value → Shared → Prop) (pvs : List PV) (vals : List Value) (pv : PV) (σ' : St),
    xhK d A → Rep S W σ s.heap → VRs W σ.next pvs vals → F pvs σ = some (pv, σ') → xhI S W σ.next s pv σ' Q → wpAny (model S.prog S.w) A (call fv vals) Q E s
structure GBn (S : xfo) (d : Nat) (x : Str) (F : List PV → M PV) : Prop where
  ex : ∃ fv, nsIn S.K mainGlobals x = some none ∧ bootBuiltins x = some fv ∧ x ≠ "__name__" ∧ ((∃ id, fv = .builtin id) ∨ ∃ T, fv = .type T) ∧ BOK S d fv F
theorem xbl {x : Str} {p pos : Pos} {e : Expr} {es : List Expr} {m : xa6 → M (List PV)} {F : List PV → M PV} {d' : Nat} (H : GBn S d' x F) (hx : x ∈ g.glob) (hm : SEs S d g ns (e :: es) m) (hd : d' ≤ d := by omega) (hb : xdH x = false := by decide +kernel)
    (he : ∀ env, starEach (e :: es) env = (false, eval e env) :: starEach es env := by intro env; rfl) (hplain : ∀ env, (backTo pos (starEach es env)).any (·.1) = false := by intro env; rfl) :
    SE S d g ns (.Call (.Name x p) (e :: es) [] pos) (xad F m) := by
  intro A env W fr σ s Q E pv σ' r gl R Fm V e P
  obtain ⟨vs, σ1, e1, e⟩ := xah e
  obtain ⟨fv, h1, h2, hn, hfv, h3⟩ := H.ex
  refine Call_Name rfl (xnB hx gl R Fm h1 h2 hn hb ?_)
  have hsp := hm A env W fr σ s (fun vals s₁ => wpAny (model S.prog S.w) A (call fv ([] ++ vals) []) Q E s₁) E vs σ1 pos r gl R Fm V e1 fun W1 vals h1 tk1 R1 t1 x1 =>
    h3 A W1 σ1 { s with heap := h1, toks := tk1 } Q E vs vals pv σ' (r.le hd) R1 x1 e fun W2 v h2 tk2 R2 t2 x2 => P W2 v h2 tk2 R2 (t1.comp t2) x2
  rw [he env] at hsp ⊢
  have hpl : ∀ t0, (backTo pos ((false, t0) :: starEach es env)).any (·.1) = false := fun t0 => by show (false || (backTo pos (starEach es env)).any (·.1)) = false; rw [hplain env]; rfl
  rcases hfv with ⟨id, rfl⟩ | ⟨T, rfl⟩
  · exact callWith_builtin (first := []) (hpl _) (Calls.evalArgs_plain hsp)
  · exact PyProof.Rows.callWith_type (first := []) (hpl _) (Calls.evalArgs_plain hsp)
def xgx : List PV → M PV := fun pvs σ => match pvs with
  | [.ref i] => (match σ.objs i with
    | .list vs => some (.int vs.length, σ)
    | _ => none)
  | _ => none
theorem VRs.one {W : Gh} {n : Nat} {p : PV} {vals : List Value} (h : VRs W n [p] vals) : ∃ v, vals = [v] ∧ VR W n p v := by
  match vals, h with
  | [v], h => exact ⟨v, rfl, h.2 0 _ _ rfl rfl⟩
  | [], h => exact absurd h.1 (by simp)
  | _ :: _ :: _, h => exact absurd h.1 (by simp)
theorem VRs.two {W : Gh} {n : Nat} {p q : PV} {vals : List Value} (h : VRs W n [p, q] vals) : ∃ v w, vals = [v, w] ∧ VR W n p v ∧ VR W n q w := by
  match vals, h with
  | [v, w], h => exact ⟨v, w, rfl, h.2 0 _ _ rfl rfl, h.2 1 _ _ rfl rfl⟩
  | [], h => exact absurd h.1 (by simp)
  | [_], h => exact absurd h.1 (by simp)
  | _ :: _ :: _ :: _, h => exact absurd h.1 (by simp)
theorem xtP : BOK S d (.builtin "len") xgx := by
  intro A W σ s Q E pvs vals pv σ' r R hv e P
  unfold xgx at e
  split at e
  case h_2 => cases e
  split at e
  case h_2 => cases e
  rename_i i _ vs ho
  cases e
  obtain ⟨v, rfl, hx⟩ := hv.one
  cases hx with
  | ref i hi =>
  have O := R.obj i hi
  rw [ho] at O
  obtain ⟨_, va, hl, hv1, hz⟩ := O
  have h1 : vs.length = va.size := by have := hv1.1; simpa using this
  refine call_len_list hl.isList (by omega) ?_
  rw [← h1]
  exact P W _ s.heap _ R .refl (.int _ _)
def xhJ : List PV → M PV := fun pvs σ => match pvs with
  | [.int a, .int b] => some (.int (if b > a then b else a), σ)
  | _ => none
theorem xu2 : BOK S d (.builtin "max") xhJ := by
  intro A W σ s Q E pvs vals pv σ' r R hv e P
  unfold xhJ at e
  split at e
  case h_2 => cases e
  cases e
  obtain ⟨v, w, rfl, hx, hy⟩ := hv.two
  cases hx; cases hy
  refine max_two_ints r.handled fun h' tk hk => ?_
  obtain ⟨R', t'⟩ := R.keep hk
  have := P W (.int _ s.toks) h' tk R' t' (.int _ _)
  split
  · rename_i c; exact P W _ h' tk R' t' (by rw [if_pos c]; exact .int _ _)
  · rename_i c; exact P W _ h' tk R' t' (by rw [if_neg c]; exact .int _ _)
def xpk : List PV → M PV := fun pvs σ => match pvs with
  | [.int a, .int b] => some (.int (if b < a then b else a), σ)
  | _ => none
theorem xu6 : BOK S d (.builtin "min") xpk := by
  intro A W σ s Q E pvs vals pv σ' r R hv e P
  unfold xpk at e
  split at e
  case h_2 => cases e
  cases e
  obtain ⟨v, w, rfl, hx, hy⟩ := hv.two
  cases hx; cases hy
  refine min_two_ints r.handled fun h' tk hk => ?_
  obtain ⟨R', t'⟩ := R.keep hk
  split
  · rename_i c; exact P W _ h' tk R' t' (by rw [if_pos c]; exact .int _ _)
  · rename_i c; exact P W _ h' tk R' t' (by rw [if_neg c]; exact .int _ _)
def xsM : List PV → M PV := fun pvs σ => match pvs with
  | [.int a] => some (.int (if a < 0 then -a else a), σ)
  | _ => none
theorem xu7 : BOK S d (.builtin "abs") xsM := by
  intro A W σ s Q E pvs vals pv σ' r R hv e P
  unfold xsM at e
  split at e
  case h_2 => cases e
  cases e
  obtain ⟨v, rfl, hx⟩ := hv.one
  cases hx
  exact call_abs_int fun u tk => P W _ s.heap tk R .refl (.int _ u)
def xdE : List PV → M PV := fun pvs σ => match pvs with
  | [.int b] => some (.rng 0 b, σ)
  | [.int a, .int b] => some (.rng a b, σ)
  | _ => none
theorem xsr : BOK S d (.type "range") xdE := by
  intro A W σ s Q E pvs vals pv σ' r R hv e P
  unfold xdE at e
  split at e
  · cases e
    obtain ⟨v, rfl, hx⟩ := hv.one
    cases hx
    refine call_range_1 ?_
    obtain ⟨R2, t2⟩ := R.tuple (o := xtI _ _ _ _ _) (fun b o e => Heap.get?_push_of_some _ e) (Heap.get?_none_of_le (Nat.le_refl _)) (Heap.get?_push_size s.heap rfl) (.inr (.inl ⟨_, _, _, _, _, rfl⟩))
    exact P _ _ _ _ R2 t2 (.rng _ _ _ _ _ _ (if_pos rfl))
  · cases e
    obtain ⟨v, w, rfl, hx, hy⟩ := hv.two
    cases hx; cases hy
    refine call_range_2 ?_
    obtain ⟨R2, t2⟩ := R.tuple (o := xtI _ _ _ _ _) (fun b o e => Heap.get?_push_of_some _ e) (Heap.get?_none_of_le (Nat.le_refl _)) (Heap.get?_push_size s.heap rfl) (.inr (.inl ⟨_, _, _, _, _, rfl⟩))
    exact P _ _ _ _ R2 t2 (.rng _ _ _ _ _ _ (if_pos rfl))
  · cases e
end
section
open PySem PySem.W PyProof.Rows PySem.Calls
variable {S : xfo}
variable {d : Nat} {g : Gn} {ns : List Str}
theorem xij {prog : Program} {w : World} {A : Around} {s : Shared} {E : Value → Shared → Prop} {l : Addr} {items : Array Value} {k : Int} {t : Tok} {v : Value} {Q : Unit → Shared → Prop} (hl : s.heap.PlainList l items)
    (h0 : 0 ≤ k) (hfit : k < 2 ^ 63) (hn : k < items.size)
    (hQ : ∀ h', h'.PlainList l (items.setIfInBounds k.toNat v) → Heap.SameBut l s.heap h' → Q () { s with heap := h' }) : wpAny (model prog w) A (setItem (.ref l) (.int k t) v) Q E s := by
  obtain ⟨n, ho⟩ := id hl
  have hT : s.TypeIs (.ref l) "list" := ⟨_, ho, rfl⟩
  unfold setItem
  try with_reducible refine wpAny_holding ?_
  refine wpAny_bind (wpAny_sequenceKey hT (by decide) ?_)
  refine wpAny_bind (wpAny_callSpecial?_slot (name := Str.ofString "__setitem__") hT slot_list_setitem (wpAny_call_entry slot_list_setitem hT entry_list_setitem ?_ (args_list_setitem _ _ _)))
  show wpAny _ _ (Builtin.List.listSubscript? (.int k t) >>= _) _ _ s
  refine wpAny_bind (wpAny_listSubscript_int (fitsIndex_of h0 hfit) ?_)
  obtain ⟨j, rfl⟩ := Int.eq_ofNat_of_zero_le h0
  have hj : j < items.size := by omega
  have hx' : items[j]? = some items[j] := Array.getElem?_eq_getElem hj
  show wpAny _ _ ((seqItemAt l j >>= fun r => pure (r.map (j, ·))) >>= _) _ _ s
  refine wpAny_bind (wpAny_bind (wpAny_seqItemAt ho rfl (wpAny_pure ?_)))
  rw [hx']
  show wpAny _ _ (setSeqItemAt l j v >>= _) _ _ s
  have hfin : (s.heap.update l (Obj.mapSeq (·.setIfInBounds j v))).PlainList l (items.setIfInBounds j v) := ⟨_, Heap.get?_update_self _ ho rfl⟩
  refine wpAny_bind (wpAny_setSeqItemAt ho rfl ?_)
  first
    | exact wpAny_bind (wpAny_pure (wpAny_pure ⟨.none, rfl, wpAny_pure (hQ _ hfin (Heap.SameBut.update ..))⟩))
    | exact wpAny_pure ⟨.none, rfl, wpAny_pure (hQ _ hfin (Heap.SameBut.update ..))⟩
theorem Rep.setList {W : Gh} {σ : St} {h h' : Heap} (R : Rep S W σ h) {i : Nat} (hi : i < σ.next) {vs ws : List PV} {va : Array Value} (ho : σ.objs i = .list vs) (hs : Heap.SameBut (W.ad i).1 h h') (hl : h'.PlainList (W.ad i).1 va)
    (hv : VRs W σ.next ws va.toList) (hz : ws.length ≤ 1000) : Rep S W (σ.set i (.list ws)) h' ∧ xbu noX W σ.next h W σ.next h' := by
  have O := R.obj i hi
  rw [ho] at O
  exact R.upd hi (R.unfz hi (by rw [ho]; exact ⟨(fun _ q => by cases q), (fun _ q => by cases q)⟩)) (.inl rfl) (fun b o hb e => (hs.2 b hb).trans e) (let ⟨_, e⟩ := hl; ⟨_, e⟩) ⟨O.1, va, hl, hv, hz⟩
theorem Rep.setDict {W : Gh} {σ : St} {h h' : Heap} (R : Rep S W σ h) {i : Nat} (hi : i < σ.next) {es fs : List (Int × PV)} {kvs : List (Int × Value)} (ho : σ.objs i = .dict es) (hs : Heap.SameBut (W.ad i).1 h h') (hl : h'.DictOf (intKind S.prog S.w) (W.ad i).1 kvs)
    (hk : fs.map (·.1) = kvs.map (·.1)) (hv : VRs W σ.next (fs.map (·.2)) (kvs.map (·.2))) (hz : fs.length ≤ 1000) : Rep S W (σ.set i (.dict fs)) h' ∧ xbu noX W σ.next h W σ.next h' := by
  have O := R.obj i hi
  rw [ho] at O
  exact R.upd hi (R.unfz hi (by rw [ho]; exact ⟨(fun _ q => by cases q), (fun _ q => by cases q)⟩)) (.inl rfl) (fun b o hb e => (hs.2 b hb).trans e) (let ⟨o, _, _, e, _⟩ := hl; ⟨o, e⟩) ⟨O.1, kvs, hl, hk, hv, hz⟩
def isL (x : PV) (σ : St) : Bool := match x with
  | .ref i => (match σ.objs i with | .list _ => true | _ => false)
  | _ => false
def isD (x : PV) (σ : St) : Bool := match x with
  | .ref i => (match σ.objs i with | .dict _ => true | _ => false)
  | _ => false
theorem xoW {x : PV} {σ : St} (h : isL x σ = true) : ∃ i vs, x = .ref i ∧ σ.objs i = .list vs := by
  unfold isL at h
  split at h
  · split at h
    · exact ⟨_, _, rfl, ‹_›⟩
    · cases h
  · cases h
theorem xre {x : PV} {σ : St} (h : isD x σ = true) : ∃ i vs, x = .ref i ∧ σ.objs i = .dict vs := by
  unfold isD at h
  split at h
  · split at h
    · exact ⟨_, _, rfl, ‹_›⟩
    · cases h
  · cases h
def xcs (t : PV → St → Bool) (f : PV → PV → M PV) (a b : xa6 → M PV) : xa6 → M PV := fun fr σ => bnd (a fr σ) fun x σ1 => if t x σ1 then bnd (b fr σ1) fun y σ2 => f x y σ2 else none
def xjp (t : PV → St → Bool) (f : PV → M PV) (a : xa6 → M PV) : xa6 → M PV := fun fr σ => bnd (a fr σ) fun x σ1 => if t x σ1 then f x σ1 else none
def xtf (S : xfo) (d : Nat) (id : String) (f : PV → PV → M PV) : Prop :=
  ∀ (A : Around) (W : Gh) (σ : St) (s : Shared) (Q : Value → Shared → Prop) (E : Value → Shared → Prop) (x y : PV) (vx vy : Value) (pv : PV) (σ' : St),
    xhK d A → Rep S W σ s.heap → VR W σ.next x vx → VR W σ.next y vy → f x y σ = some (pv, σ') → xhI S W σ.next s pv σ' Q → wpAny (model S.prog S.w) A (call (.builtin id) [vx, vy]) Q E s
theorem xnO {W : Gh} {σ : St} {h : Heap} (R : Rep S W σ h) {i : Nat} (hi : i < σ.next) {vs : List PV} (ho : σ.objs i = .list vs) : ∃ n va, h.get? (W.ad i).1 = some { cls := .type "list", data := .seq va n } := by
  have O := R.obj i hi
  rw [ho] at O
  obtain ⟨_, va, ⟨n, e⟩, _⟩ := O
  exact ⟨n, va, e⟩
theorem xet {o e : Expr} {name : Str} {apos pos : Pos} {a b : xa6 → M PV} {id : String} {f : PV → PV → M PV} {pl : Env → Sem Bool} (slot : Slot "list" name id) (hty : typeOf (.builtin id) = pure (.type "method_descriptor")) (hf : xtf S d id f)
    (ha : SE S d g ns o a) (hb : SE S d g ns e b)
    (he : ∀ env, eval (.Call (.Attribute o name apos) [e] [] pos) env = (do
      let ov ← eval o env
      standAt apos.atName
      let (f, first) ← holding [ov] (getMethod ov name (pl env))
      callWith pos f first (backTo pos (starEach [e] env)) []) := by intro env; rfl) (hst : ∀ env, starEach [e] env = [(false, eval e env)] := by intro env; rfl) :
    SE S d g ns (.Call (.Attribute o name apos) [e] [] pos) (xcs isL f a b) := by
  intro A env W fr σ s Q E pv σ' r gl R F V h P
  obtain ⟨x, σ1, e1, h⟩ := xah h
  split at h
  case isFalse => cases h
  rename_i ht
  obtain ⟨y, σ2, e2, h⟩ := xah h
  obtain ⟨i, vs, rfl, ho⟩ := xoW ht
  refine MethodCall_ (ha A env W fr σ s _ E _ _ r gl R F V e1 fun W1 vx h1 tk1 R1 t1 x1 => ?_) (he env)
  cases x1 with
  | ref i hi =>
  obtain ⟨n, va, hget⟩ := xnO R1 hi ho
  refine getMethod_builtin (T := "list") ⟨_, hget, rfl⟩ PySem.F.plainAttrs_list slot hty (fun a q => by cases q; exact ⟨_, hget, rfl⟩) ?_
  rw [hst env]
  refine callWith_builtin (first := [.ref (W1.ad i).1]) rfl (Calls.evalArgs_plain (spliced_cons ?_))
  refine hb A env W1 fr σ1 _ _ E y _ r gl R1 (F.trans t1) (V.trans F t1) e2 fun W2 vy h2 tk2 R2 t2 x2 => spliced_nil ?_
  have hx : VR W2 σ2.next (.ref i) (.ref (W1.ad i).1) := t2.vr (.ref i hi)
  exact hf A W2 σ2 _ Q E (.ref i) y _ vy pv σ' r R2 hx x2 h ((P.next t1).next t2)
theorem xqj {o e : Expr} {name : Str} {apos pos : Pos} {a b : xa6 → M PV} {id : String} {f : PV → PV → M PV} {pl : Env → Sem Bool} (slot : Slot "dict" name id) (hty : typeOf (.builtin id) = pure (.type "method_descriptor")) (hf : xtf S d id f)
    (ha : SE S d g ns o a) (hb : SE S d g ns e b)
    (he : ∀ env, eval (.Call (.Attribute o name apos) [e] [] pos) env = (do
      let ov ← eval o env
      standAt apos.atName
      let (f, first) ← holding [ov] (getMethod ov name (pl env))
      callWith pos f first (backTo pos (starEach [e] env)) []) := by intro env; rfl) (hst : ∀ env, starEach [e] env = [(false, eval e env)] := by intro env; rfl) :
    SE S d g ns (.Call (.Attribute o name apos) [e] [] pos) (xcs isD f a b) := by
  intro A env W fr σ s Q E pv σ' r gl R F V h P
  obtain ⟨x, σ1, e1, h⟩ := xah h
  split at h
  case isFalse => cases h
  rename_i ht
  obtain ⟨y, σ2, e2, h⟩ := xah h
  obtain ⟨i, vs, rfl, ho⟩ := xre ht
  refine MethodCall_ (ha A env W fr σ s _ E _ _ r gl R F V e1 fun W1 vx h1 tk1 R1 t1 x1 => ?_) (he env)
  cases x1 with
  | ref i hi =>
  have O := R1.obj i hi
  rw [ho] at O
  obtain ⟨_, kvs, hdo, _⟩ := O
  refine getMethod_builtin hdo.typeIs PySem.F.plainAttrs_dict slot hty hdo.mapOf.noDict ?_
  rw [hst env]
  refine callWith_builtin (first := [.ref (W1.ad i).1]) rfl (Calls.evalArgs_plain (spliced_cons ?_))
  refine hb A env W1 fr σ1 _ _ E y _ r gl R1 (F.trans t1) (V.trans F t1) e2 fun W2 vy h2 tk2 R2 t2 x2 => spliced_nil ?_
  have hx : VR W2 σ2.next (.ref i) (.ref (W1.ad i).1) := t2.vr (.ref i hi)
  exact hf A W2 σ2 _ Q E (.ref i) y _ vy pv σ' r R2 hx x2 h ((P.next t1).next t2)
def xco : PV → PV → M PV := fun x y σ => match x with
  | .ref i => (match σ.objs i with
    | .list vs => if vs.length < 1000 then some (.none, σ.set i (.list (vs ++ [y]))) else none
    | _ => none)
  | _ => none
theorem xgy : xtf S d "list.append" xco := by
  intro A W σ s Q E x y vx vy pv σ' r R hx hy h P
  unfold xco at h
  split at h
  case h_2 => cases h
  split at h
  case h_2 => cases h
  rename_i i _ vs ho
  split at h
  case isFalse => cases h
  rename_i hz
  cases h
  cases hx with
  | ref i hi =>
  have O := R.obj i hi
  rw [ho] at O
  obtain ⟨_, va, hl, hv, _⟩ := O
  have hlen : vs.length = va.size := by have := hv.1; simpa using this
  refine wpAny_list_append_plain hl (fun h' hl' hs' => ?_) (by rw [sizeLine_eq]; omega)
  obtain ⟨R', t'⟩ := R.setList hi ho hs' hl' (ws := vs ++ [y]) (by rw [Array.toList_push]; exact hv.append (.cons hy .nil)) (by simp; omega)
  exact P W .none h' s.toks R' t' .none
def xrB : PV → M PV := fun x σ => match x with
  | .ref i => (match σ.objs i with
    | .list vs => (match vs.getLast? with
      | some v => some (v, σ.set i (.list vs.dropLast))
      | none => none)
    | _ => none)
  | _ => none
theorem xrL {o : Expr} {apos pos : Pos} {a : xa6 → M PV} {pl : Env → Sem Bool} (ha : SE S d g ns o a)
    (he : ∀ env, eval (.Call (.Attribute o "pop" apos) [] [] pos) env = (do
      let ov ← eval o env
      standAt apos.atName
      let (f, first) ← holding [ov] (getMethod ov "pop" (pl env))
      callWith pos f first (backTo pos (starEach [] env)) []) := by intro env; rfl) :
    SE S d g ns (.Call (.Attribute o "pop" apos) [] [] pos) (xjp isL xrB a) := by
  intro A env W fr σ s Q E pv σ' r gl R F V h P
  obtain ⟨x, σ1, e1, h⟩ := xah h
  split at h
  case isFalse => cases h
  rename_i ht
  obtain ⟨i, vs, rfl, ho⟩ := xoW ht
  refine MethodCall_ (ha A env W fr σ s _ E _ _ r gl R F V e1 fun W1 vx h1 tk1 R1 t1 x1 => ?_) (he env)
  cases x1 with
  | ref i hi =>
  have O := R1.obj i hi
  rw [ho] at O
  obtain ⟨_, va, ⟨n, hget⟩, hv, hz⟩ := O
  refine getMethod_builtin (T := "list") ⟨_, hget, rfl⟩ PySem.F.plainAttrs_list PySem.F.slot_list_pop PySem.F.type_list_pop (fun a q => by cases q; exact ⟨_, hget, rfl⟩) ?_
  unfold xrB at h
  simp only [ho] at h
  split at h
  case h_2 => cases h
  rename_i v hlast
  cases h
  have hlen : vs.length = va.size := by have := hv.1; simpa using this
  have hne : vs ≠ [] := fun q => by rw [q] at hlast; cases hlast
  have hpos : 0 < vs.length := List.length_pos_iff.mpr hne
  have hlast' : vs[vs.length - 1]? = some pv := by rw [← List.getLast?_eq_getElem?]; exact hlast
  obtain ⟨v', hv1, hv2⟩ := hv.get hlast'
  have hv1' : va[va.size - 1]? = some v' := by rw [← Array.getElem?_toList, ← hlen]; exact hv1
  show wpAny _ _ (callWith pos (.builtin "list.pop") [.ref (W1.ad i).1] [] []) _ _ _
  refine PySem.P.pop_list (n := n) hget hv1' ?_ (by rw [sizeLine_eq]; omega)
  have hl' : (h1.update (W1.ad i).1 (Obj.mapSeq fun xs => xs.eraseIdxIfInBounds (va.size - 1))).PlainList (W1.ad i).1 (va.eraseIdxIfInBounds (va.size - 1)) := ⟨_, Heap.get?_update_self _ hget rfl⟩
  have hws : (va.eraseIdxIfInBounds (va.size - 1)).toList = va.toList.dropLast := by
    rw [Array.toList_eraseIdxIfInBounds, List.dropLast_eq_take, List.eraseIdx_eq_take_drop_succ, Array.length_toList, List.drop_eq_nil_of_le (by simp; omega), List.append_nil]
  obtain ⟨R2, t2⟩ := R1.setList hi ho (Heap.SameBut.update ..) hl' (ws := vs.dropLast) (by
    rw [hws]
    refine ⟨by simp [hlen], fun k pv v p q => ?_⟩
    rw [List.getElem?_dropLast] at p q
    split at p
    · split at q
      · exact hv.2 k pv v p q
      · cases q
    · cases p) (by simp; omega)
  exact P W1 v' _ tk1 R2 (t1.comp t2) hv2
def xm0 (es : List (Int × PV)) (k : Int) : List (Int × PV) := es.filter fun kv => decide (kv.1 ≠ k)
def xle : PV → PV → M PV := fun x y σ => match x, y with
  | .ref i, .int k => (match σ.objs i with
    | .dict es => (match xil es k with
      | some v => some (v, σ.set i (.dict (xm0 es k)))
      | none => none)
    | _ => none)
  | _, _ => none
theorem xoE {W : Gh} {n : Nat} (k : Int) : ∀ {es : List (Int × PV)} {kvs : List (Int × Value)}, es.map (·.1) = kvs.map (·.1) → VRs W n (es.map (·.2)) (kvs.map (·.2)) →
    (xm0 es k).map (·.1) = (without kvs k).map (·.1) ∧ VRs W n ((xm0 es k).map (·.2)) ((without kvs k).map (·.2)) := by
  intro es
  induction es with
  | nil => intro kvs h1 h2; cases kvs with | nil => exact ⟨rfl, .nil⟩ | cons _ _ => cases h1
  | cons e es ih =>
    intro kvs h1 h2
    cases kvs with
    | nil => cases h1
    | cons kv kvs =>
      simp only [List.map_cons, List.cons.injEq] at h1
      have h3 : VR W n e.2 kv.2 := h2.2 0 _ _ rfl rfl
      have h4 : VRs W n (es.map (·.2)) (kvs.map (·.2)) := ⟨by have := h2.1; simpa using this, fun j a b p q => h2.2 (j + 1) a b (by simpa using p) (by simpa using q)⟩
      obtain ⟨i1, i2⟩ := ih h1.2 h4
      unfold xm0 without at i1 i2 ⊢
      by_cases q : e.1 = k
      · have q' : kv.1 = k := h1.1 ▸ q
        simp only [List.filter_cons, q, q', ne_eq, not_true, decide_false, Bool.false_eq_true, if_false]
        exact ⟨i1, i2⟩
      · have q' : ¬ kv.1 = k := h1.1 ▸ q
        simp only [List.filter_cons, q, q', ne_eq, not_false_eq_true, decide_true, if_true, List.map_cons]
        exact ⟨by rw [i1, h1.1], .cons h3 i2⟩
theorem xkF {W : Gh} {n : Nat} {es : List (Int × PV)} {kvs : List (Int × Value)} (h : VRs W n (es.map (·.2)) (kvs.map (·.2))) : kvs.length = es.length := by have := h.1; simpa using this.symm
theorem xtp : xtf S d "dict.pop" xle := by
  intro A W σ s Q E x y vx vy pv σ' r R hx hy h P
  unfold xle at h
  split at h
  case h_2 => cases h
  split at h
  case h_2 => cases h
  rename_i i k _ es ho
  split at h
  case h_2 => cases h
  rename_i v hg
  cases h
  cases hx with
  | ref i hi =>
  cases hy with
  | int k t =>
  have O := R.obj i hi
  rw [ho] at O
  obtain ⟨_, kvs, hl, hk, hv, hz⟩ := O
  obtain ⟨v', h1, h2⟩ := xiN hk hv hg
  have hlen := xkF hv
  refine call_meetsIn PySem.F.slot_dict_pop hl.typeIs PySem.F.entry_dict_pop (PySem.F.args_dict_pop_2 _ _) (meets_dict_pop_there (intKind S.prog S.w) (W.ad i).1 (intKind_is S.prog S.w k t) [] (.inl rfl) rfl) ⟨kvs, v', hl, (by rw [sizeLine_eq]; omega), h1, fun h' hmm hs => ?_⟩
  obtain ⟨r1, r2⟩ := xoE k hk hv
  obtain ⟨R', t'⟩ := R.setDict hi ho hs hmm (fs := xm0 es k) r1 r2 (Nat.le_trans (List.length_filter_le _ _) hz)
  exact P W v' h' _ R' t' h2
def isC (c : Nat) (x : PV) (σ : St) : Bool := match x with
  | .ref i => (match σ.objs i with | .inst c' _ => c == c' | _ => false)
  | _ => false
theorem xrn {c : Nat} {x : PV} {σ : St} (h : isC c x σ = true) : ∃ i fs, x = .ref i ∧ σ.objs i = .inst c fs := by
  unfold isC at h
  split at h
  · split at h
    · rename_i e; exact ⟨_, _, rfl, by rw [e, beq_iff_eq.mp h]⟩
    · cases h
  · cases h
def xn9 (c : Nat) (F : List PV → M PV) (a : xa6 → M PV) (m : xa6 → M (List PV)) : xa6 → M PV := fun fr σ => bnd (a fr σ) fun x σ1 => if isC c x σ1 then bnd (m fr σ1) fun vs σ2 => F (x :: vs) σ2 else none
structure MFn (S : xfo) (d : Nat) (c : Nat) (x : Str) (F : List PV → M PV) : Prop where
  ex : ∃ f, xmY S c ∧ findIn S.K (.ref (S.cadr c)) x = some (some (.ref f)) ∧ isFn S.K (.ref f) = true ∧ keepIn S.K (.ref f) = true ∧ (∀ k : Nat, (S.flds c)[k]? ≠ some x) ∧ xdd S d (.ref f) F
theorem xif {o e : Expr} {es : List Expr} {name : Str} {apos pos : Pos} {a : xa6 → M PV} {m : xa6 → M (List PV)} {c : Nat} {F : List PV → M PV} {pl : Env → Sem Bool} {d' : Nat} (H : MFn S d' c name F)
    (ha : SE S d g ns o a) (hm : SEs S d g ns (e :: es) m) (hd : d' ≤ d := by omega)
    (he : ∀ env, eval (.Call (.Attribute o name apos) (e :: es) [] pos) env = (do
      let ov ← eval o env
      standAt apos.atName
      let (f, first) ← holding [ov] (getMethod ov name (pl env))
      callWith pos f first (backTo pos (starEach (e :: es) env)) []) := by intro env; rfl)
    (hst : ∀ env, starEach (e :: es) env = (false, eval e env) :: starEach es env := by intro env; rfl) (hplain : ∀ env, (backTo pos (starEach es env)).any (·.1) = false := by intro env; rfl) :
    SE S d g ns (.Call (.Attribute o name apos) (e :: es) [] pos) (xn9 c F a m) := by
  intro A env W fr σ s Q E pv σ' r gl R Fm V h P
  obtain ⟨x, σ1, e1, h⟩ := xah h
  split at h
  case isFalse => cases h
  rename_i ht
  obtain ⟨vs, σ2, e2, h⟩ := xah h
  obtain ⟨i, fs, rfl, ho⟩ := xrn ht
  obtain ⟨f, cf, h1, h2, h3, h4, h5⟩ := H.ex
  refine MethodCall_ (ha A env W fr σ s _ E _ _ r gl R Fm V e1 fun W1 vx hh1 tk1 R1 t1 x1 => ?_) (he env)
  cases x1 with
  | ref i hi =>
  have O := R1.obj i hi
  rw [ho] at O
  obtain ⟨ne, hx, mm, ⟨od, es', ep, hd', hdd, hsk, hmm⟩, hf, hg, _⟩ := O
  have I : InstAt hh1 (W1.ad i).1 (instObj (S.cadr c) (W1.ad i).2) (S.cadr c) (some od) := ⟨hx, rfl, rfl, hd'⟩
  have pg := plainGet_of (name := "") cf.get
  refine method_fn (S.X.keeps R1.base) I pg.1 pg.2 h1 (beq_iff_eq.mp h2) (by
    show (lookIn name od).map _ = _
    rw [xkf hdd hsk name ((hmm name).trans (hg name fun k _ => h4 k))]; rfl) ?_
  refine callWith_K S.X h3 (hm A env W1 fr σ1 _ _ E vs σ2 pos r gl R1 (Fm.trans t1) (V.trans Fm t1) e2 fun W2 vals hh2 tk2 R2 t2 x2 => ⟨S.X.keeps R2.base, ?_⟩) (hst env) (hplain env)
  have hx' : VR W2 σ2.next (.ref i) (.ref (W1.ad i).1) := t2.vr (.ref i hi)
  exact wpAny_call (h5 A W2 σ2 _ _ (.ref i :: vs) (.ref (W1.ad i).1 :: vals) pv σ' (r.le hd) R2 (.cons hx' x2) h fun W3 v hh3 tk3 R3 t3 x3 => P W3 v hh3 tk3 R3 ((t1.comp t2).comp t3) x3)
def xmy (es : List (Int × PV)) (k : Int) (v : PV) : List (Int × PV) := if es.any (fun kv => kv.1 = k) then es.map (fun kv => if kv.1 = k then (kv.1, v) else kv) else es ++ [(k, v)]
def xjw (x y v : PV) (σ : St) : Option St := match x, y with
  | .ref i, .int k => (match σ.objs i with
    | .list vs => if 0 ≤ k ∧ k.toNat < vs.length then some (σ.set i (.list (vs.set k.toNat v))) else none
    | .dict es => if es.length < 1000 then some (σ.set i (.dict (xmy es k v))) else none
    | _ => none)
  | _, _ => none
theorem xrs {W : Gh} {n : Nat} (k : Int) {pv : PV} {v : Value} (hpv : VR W n pv v) {es : List (Int × PV)} {kvs : List (Int × Value)} (h1 : es.map (·.1) = kvs.map (·.1)) (h2 : VRs W n (es.map (·.2)) (kvs.map (·.2))) :
    (xmy es k pv).map (·.1) = (stored kvs k v).map (·.1) ∧ VRs W n ((xmy es k pv).map (·.2)) ((stored kvs k v).map (·.2)) := by
  have hany : es.any (fun kv => decide (kv.1 = k)) = kvs.any (fun kv => decide (kv.1 = k)) := by
    have e1 : es.any (fun kv => decide (kv.1 = k)) = (es.map (·.1)).any (fun y => decide (y = k)) := by rw [List.any_map]; rfl
    have e2 : kvs.any (fun kv => decide (kv.1 = k)) = (kvs.map (·.1)).any (fun y => decide (y = k)) := by rw [List.any_map]; rfl
    rw [e1, e2, h1]
  unfold xmy stored
  rw [hany]
  split
  · clear hany
    induction es generalizing kvs with
    | nil => cases kvs with | nil => exact ⟨rfl, .nil⟩ | cons _ _ => cases h1
    | cons e es ih =>
      cases kvs with
      | nil => cases h1
      | cons kv kvs =>
        simp only [List.map_cons, List.cons.injEq] at h1
        have h3 : VR W n e.2 kv.2 := h2.2 0 _ _ rfl rfl
        have h4 : VRs W n (es.map (·.2)) (kvs.map (·.2)) := ⟨by have := h2.1; simpa using this, fun j a b p q => h2.2 (j + 1) a b (by simpa using p) (by simpa using q)⟩
        rename_i hh
        obtain ⟨i1, i2⟩ : (List.map (fun x => x.1) (List.map (fun kv => if kv.1 = k then (kv.1, pv) else kv) es) = List.map (fun x => x.1) (List.map (fun kv => if kv.1 = k then (kv.1, v) else kv) kvs)) ∧ VRs W n (List.map (fun x => x.2) (List.map (fun kv => if kv.1 = k then (kv.1, pv) else kv) es)) (List.map (fun x => x.2) (List.map (fun kv => if kv.1 = k then (kv.1, v) else kv) kvs)) := by
          clear ih hh
          have : ∀ {es : List (Int × PV)} {kvs : List (Int × Value)}, es.map (·.1) = kvs.map (·.1) → VRs W n (es.map (·.2)) (kvs.map (·.2)) → (List.map (fun x => x.1) (List.map (fun kv => if kv.1 = k then (kv.1, pv) else kv) es) = List.map (fun x => x.1) (List.map (fun kv => if kv.1 = k then (kv.1, v) else kv) kvs)) ∧ VRs W n (List.map (fun x => x.2) (List.map (fun kv => if kv.1 = k then (kv.1, pv) else kv) es)) (List.map (fun x => x.2) (List.map (fun kv => if kv.1 = k then (kv.1, v) else kv) kvs)) := by
            intro es
            induction es with
            | nil => intro kvs a b; cases kvs with | nil => exact ⟨rfl, .nil⟩ | cons _ _ => cases a
            | cons e es ih =>
              intro kvs a b
              cases kvs with
              | nil => cases a
              | cons kv kvs =>
                simp only [List.map_cons, List.cons.injEq] at a
                have b3 : VR W n e.2 kv.2 := b.2 0 _ _ rfl rfl
                have b4 : VRs W n (es.map (·.2)) (kvs.map (·.2)) := ⟨by have := b.1; simpa using this, fun j x y p q => b.2 (j + 1) x y (by simpa using p) (by simpa using q)⟩
                obtain ⟨i1, i2⟩ := ih a.2 b4
                simp only [List.map_cons]
                by_cases q : e.1 = k
                · have q' : kv.1 = k := a.1 ▸ q
                  rw [if_pos q, if_pos q']
                  exact ⟨by rw [i1, a.1], .cons hpv i2⟩
                · have q' : ¬ kv.1 = k := a.1 ▸ q
                  rw [if_neg q, if_neg q']
                  exact ⟨by rw [i1, a.1], .cons b3 i2⟩
          exact this h1.2 h4
        simp only [List.map_cons]
        by_cases q : e.1 = k
        · have q' : kv.1 = k := h1.1 ▸ q
          rw [if_pos q, if_pos q']
          exact ⟨by rw [i1, h1.1], .cons hpv i2⟩
        · have q' : ¬ kv.1 = k := h1.1 ▸ q
          rw [if_neg q, if_neg q']
          exact ⟨by rw [i1, h1.1], .cons h3 i2⟩
  · rw [List.map_append, List.map_append, List.map_append, List.map_append, h1]
    exact ⟨rfl, h2.append (.cons hpv .nil)⟩
theorem xr9 (es : List (Int × PV)) (k : Int) (v : PV) : (xmy es k v).length ≤ es.length + 1 := by
  unfold xmy; split <;> simp
theorem VRs.set {W : Gh} {n : Nat} {vs : List PV} {vals : List Value} (h : VRs W n vs vals) {p : PV} {v : Value} (hp : VR W n p v) (k : Nat) : VRs W n (vs.set k p) (vals.set k v) := by
  refine ⟨by simp [h.1], fun j a b x y => ?_⟩
  rw [List.getElem?_set] at x y
  by_cases q : k = j
  · rw [if_pos q] at x y
    by_cases q2 : k < vs.length
    · rw [if_pos q2] at x
      rw [if_pos (h.1 ▸ q2)] at y
      cases x; cases y; exact hp
    · rw [if_neg q2] at x; cases x
  · rw [if_neg q] at x y
    exact h.2 j a b x y
theorem xpP {A : Around} {W : Gh} {σ σ' : St} {s : Shared} {Q : Unit → Shared → Prop} {E : Value → Shared → Prop} {x y pv : PV} {vx vy v : Value} (R : Rep S W σ s.heap) (hx : VR W σ.next x vx) (hy : VR W σ.next y vy) (hv : VR W σ.next pv v)
    (h : xjw x y pv σ = some σ') (P : ∀ h' tk, Rep S W σ' h' → xbu noX W σ.next s.heap W σ.next h' → σ'.next = σ.next → Q () { s with heap := h', toks := tk }) : wpAny (model S.prog S.w) A (setItem vx vy v) Q E s := by
  unfold xjw at h
  split at h
  case h_2 => cases h
  rename_i i k
  cases hy with
  | int k t =>
  cases hx with
  | ref i hi =>
  have O := R.obj i hi
  split at h
  · rename_i vs ho
    rw [ho] at O
    obtain ⟨_, va, hl, hvs, hz⟩ := O
    split at h
    case isFalse => cases h
    rename_i hb
    cases h
    have hlen : vs.length = va.size := by have := hvs.1; simpa using this
    refine xij hl hb.1 (by omega) (by omega) fun h' hl' hs' => ?_
    obtain ⟨R', t'⟩ := R.setList hi ho hs' hl' (ws := vs.set k.toNat pv) (by rw [Array.toList_setIfInBounds]; exact hvs.set hv _) (by simpa using hz)
    exact P h' s.toks R' t' rfl
  · rename_i es ho
    rw [ho] at O
    obtain ⟨_, kvs, hl, hk, hvs, hz⟩ := O
    split at h
    case isFalse => cases h
    rename_i hb
    cases h
    have hlen := xkF hvs
    refine wpAny_setItem_pairs (intKind_is S.prog S.w k t) hl (fun h' hl' hs' => ?_) (by rw [sizeLine_eq]; omega)
    obtain ⟨r1, r2⟩ := xrs k hv hk hvs
    obtain ⟨R', t'⟩ := R.setDict hi ho hs' hl' (fs := xmy es k pv) r1 r2 (by have := xr9 es k pv; omega)
    exact P h' _ R' t' rfl
  · cases h
def xdR (o i v : xa6 → M PV) : xa6 → M (FR × xa6) := fun fr σ => bnd (v fr σ) fun z σ1 => bnd (o fr σ1) fun x σ2 => bnd (i fr σ2) fun y σ3 => match xjw x y z σ3 with
  | some σ4 => some ((.next, fr), σ4)
  | none => none
theorem xg8 {o i e : Expr} {p' p : Pos} {a b c : xa6 → M PV} (ho : SE S d g ns o a) (hi : SE S d g ns i b) (he : SE S d g ns e c)
    (hs : ∀ env, swapsWith e (some (.Subscript o i p')) p.line env = pure false := by intro env; rfl) : SS S d g ns (.Assign [.Subscript o i p'] e p) (xdR a b c) := by
  intro A env W fr σ s Q E f fr' σ' r gl T R F V e P
  obtain ⟨z, σ1, e1, e⟩ := xah e
  obtain ⟨x, σ2, e2, e⟩ := xah e
  obtain ⟨y, σ3, e3, e⟩ := xah e
  split at e
  case h_2 => cases e
  rename_i σ4 hp
  cases e
  refine wpAny_Assign_Subscript (he A env W fr σ s _ E z _ r gl R F V e1 fun W1 vz h1 tk1 R1 t1 x1 => ?_) (hs env)
  refine ho A env W1 fr σ1 _ _ E x _ r gl R1 (F.trans t1) (V.trans F t1) e2 fun W2 vx h2 tk2 R2 t2 x2 => ?_
  have t12 := t1.comp t2
  refine hi A env W2 fr σ2 _ _ E y _ r gl R2 (F.trans t12) (V.trans F t12) e3 fun W3 vy h3 tk3 R3 t3 x3 => ?_
  refine xpP R3 (t3.vr x2) x3 (t3.vr (t2.vr x1)) hp fun h4 tk4 R4 t4 hn => ?_
  have t : xbu noX W σ.next s.heap W3 σ'.next h4 := by rw [hn]; exact (t12.comp t3).comp t4
  exact P W3 .next h4 tk4 R4 t.toX (F.trans t) (V.trans F t) trivial
def xqZ (o i : xa6 → M PV) : xa6 → M (FR × xa6) := fun fr σ => bnd (o fr σ) fun x σ1 => bnd (i fr σ1) fun y σ2 => match xle x y σ2 with
  | some (_, σ3) => some ((.next, fr), σ3)
  | none => none
theorem xpw {o i : Expr} {p' p : Pos} {a b : xa6 → M PV} (ho : SE S d g ns o a) (hi : SE S d g ns i b) : SS S d g ns (.Delete [.Subscript o i p'] p) (xqZ a b) := by
  intro A env W fr σ s Q E f fr' σ' r gl T R F V e P
  obtain ⟨x, σ1, e1, e⟩ := xah e
  obtain ⟨y, σ2, e2, e⟩ := xah e
  split at e
  case h_2 => cases e
  rename_i pv σ3 hp
  cases e
  refine wpAny_Delete ?_
  show wpAny _ _ (delete (.Subscript o i p') env >>= fun _ => deleteEach [] env) _ _ _
  refine wpAny_bind (delete_Subscript ?_)
  refine ho A env W fr σ s _ E x _ r gl R F V e1 fun W1 vx h1 tk1 R1 t1 x1 => ?_
  refine hi A env W1 fr σ1 _ _ E y _ r gl R1 (F.trans t1) (V.trans F t1) e2 fun W2 vy h2 tk2 R2 t2 x2 => ?_
  have x1' := t2.vr x1
  have t12 := t1.comp t2
  unfold xle at hp
  split at hp
  case h_2 => cases hp
  split at hp
  case h_2 => cases hp
  rename_i i k _ es ho
  split at hp
  case h_2 => cases hp
  rename_i v hg
  cases hp
  cases x1' with
  | ref i hi =>
  cases x2 with
  | int k t =>
  have O := R2.obj i hi
  rw [ho] at O
  obtain ⟨_, kvs, hl, hk, hv, hz⟩ := O
  obtain ⟨v', hh1, hh2⟩ := xiN hk hv hg
  have hlen := xkF hv
  unfold delItem
  try with_reducible refine wpAny_holding ?_
  refine wpAny_bind (wpAny_sequenceKey (s := { s with heap := h2, toks := tk2 }) hl.typeIs (by decide) ?_)
  refine wpAny_bind (wpAny_callSpecial?_slot (s := { s with heap := h2, toks := tk2 }) (name := Str.ofString "__delitem__") hl.typeIs PySem.F.slot_dict_delitem
    (call_meetsIn PySem.F.slot_dict_delitem hl.typeIs PySem.F.entry_dict_delitem (PySem.F.args_dict_delitem_2 _ _) (meets_dict_delitem_pairs (intKind S.prog S.w) (W2.ad i).1 (intKind_is S.prog S.w k t)) ⟨kvs, hl, (by rw [sizeLine_eq]; omega), (by rw [hh1]; rfl), fun h' hmm hs => ?_⟩))
  obtain ⟨r1, r2⟩ := xoE k hk hv
  obtain ⟨R', t'⟩ := R2.setDict hi ho hs hmm (fs := xm0 es k) r1 r2 (Nat.le_trans (List.length_filter_le _ _) hz)
  refine wpAny_pure (wpAny_pure ?_)
  have tt := t12.comp t'
  exact P W2 .next h' _ R' tt.toX (F.trans tt) (V.trans F tt) trivial
end
section
open PySem PySem.W PyProof.Rows PySem.Calls
variable {S : xfo}
variable {d : Nat} {g : Gn} {ns : List Str}
def Gh.freeze (W : Gh) (i : Nat) : Gh := { W with fz := fun j => decide (j = i) || W.fz j }
theorem Rep.freeze {W : Gh} {σ : St} {h : Heap} (R : Rep S W σ h) {i : Nat} (hi : i < σ.next) {o' : xg2} (ho : xgH S W σ.next h (W.ad i) o') (hk : (∃ es, o' = .fdict es) ∨ ∃ vs, o' = .flist vs) :
    Rep S (W.freeze i) (σ.set i o') h ∧ xbu noX W σ.next h (W.freeze i) σ.next h := by
  have own : ∀ b, Own (W.freeze i) σ.next b → Own W σ.next b := by
    rintro b ⟨j, hj, hf, hb⟩
    have : (decide (j = i) || W.fz j) = false := hf
    rw [Bool.or_eq_false_iff] at this
    exact ⟨j, hj, this.2, hb⟩
  refine ⟨⟨R.base, fun j hj => ?_, R.apart, R.fresh, R.above, fun j hj hf => ?_, fun a o e => let t := R.tup a o e; ⟨t.1, fun q => t.2.1 (own a q), t.2.2⟩⟩,
    ⟨Nat.le_refl _, fun _ _ => rfl, fun _ _ e => e, fun j hj e => by show (decide (j = i) || W.fz j) = true; rw [e, Bool.or_true], fun b o e _ _ => e, fun b o e => ⟨o, e⟩, fun i h1 h2 => absurd h1 (Nat.not_le.mpr h2), fun _ e _ => e⟩⟩
  · show xgH S (W.freeze i) σ.next h (W.ad j) (if j = i then o' else σ.objs j)
    by_cases q : j = i
    · subst q; rw [if_pos rfl]; exact ho.mono (Nat.le_refl _) (fun _ _ => rfl) (fun _ _ e => e) (fun _ e => e) (fun _ e => e)
    · rw [if_neg q]; exact (R.obj j hj).mono (Nat.le_refl _) (fun _ _ => rfl) (fun _ _ e => e) (fun _ e => e) (fun _ e => e)
  · show (∃ es, (if j = i then o' else σ.objs j) = _) ∨ ∃ vs, (if j = i then o' else σ.objs j) = _
    by_cases q : j = i
    · rw [if_pos q]; exact hk
    · rw [if_neg q]
      have : (decide (j = i) || W.fz j) = true := hf
      simp only [q, decide_false, Bool.false_or] at this
      exact R.frz j hj this
def xib (a b : Int) : List PV := (List.range (b - a).toNat).map fun (i : Nat) => .int (a + i)
def xbo (x : PV) (σ : St) : Option (List PV × St) := match x with
  | .tup vs => if vs.length ≤ 1000 then some (vs, σ) else none
  | .rng a b => if -1000000 ≤ a ∧ a ≤ 1000000 ∧ -1000000 ≤ b ∧ b ≤ 1000000 then some (xib a b, σ) else none
  | .ref i => (match σ.objs i with
    | .list vs => some (vs, σ.set i (.flist vs))
    | .flist vs => some (vs, σ)
    | .dict es => some (es.map (fun kv => .int kv.1), σ.set i (.fdict es))
    | .fdict es => some (es.map (fun kv => .int kv.1), σ)
    | _ => none)
  | _ => none
theorem xow {k : Int} {v : Value} (h : Value.isInt k v = true) : ∃ t, v = .int k t := by
  unfold Value.isInt at h
  split at h
  · rename_i i t; exact ⟨t, by rw [beq_iff_eq.mp h]⟩
  · cases h
structure xrz (S : xfo) (A : Around) (W : Gh) (n : Nat) (h : Heap) (h0 : Heap) (vs : List PV) (I : Addr) : Prop where
  ex : ∃ m fp P St, m = vs.length ∧ Walks S.prog S.w A I fp [I] m P St ∧ St 0 h ∧ (∀ i h, St i h → ∀ b ∈ fp, ∃ o, h.get? b = some o) ∧ (∀ b ∈ fp, b = I ∨ (∃ o, h0.get? b = some o ∧ (∃ i, i < n ∧ b = (W.ad i).1) ∧ ¬ Own W n b) ∨ (∃ o, W.T b = some o)) ∧ (∀ b ∈ fp, ¬ Own W n b) ∧
    (∀ j pv v, vs[j]? = some pv → P j v → VR W n pv v)
  fresh : h0.objs.size ≤ I
  here : ∃ o, h.get? I = some o
  size : I < h.objs.size
  tn : W.T I = none
theorem xnx {A : Around} {W : Gh} {σ σ' : St} {s : Shared} {Q : Value → Shared → Prop} {E : Value → Shared → Prop} {x : PV} {v : Value} {vs : List PV} (r : xhK d A) (R : Rep S W σ s.heap) (hx : VR W σ.next x v) (hi : xbo x σ = some (vs, σ'))
    (P : ∀ W' I h', Rep S W' σ' h' → σ'.next = σ.next → xbu noX W σ.next s.heap W' σ'.next h' → xrz S A W' σ'.next h' s.heap vs I → Q (.ref I) { s with heap := h' }) : wpAny (model S.prog S.w) A (pyIter v) Q E s := by
  have hTn : W.T s.heap.objs.size = none := by
    cases q : W.T s.heap.objs.size with
    | none => rfl
    | some o => exact absurd (Heap.lt_size (R.tup _ o q).1) (Nat.lt_irrefl _)
  have keep : ∀ (o : Obj) b ob, s.heap.get? b = some ob → (s.heap.push o).get? b = some ob := fun o b ob e => Heap.get?_push_of_some _ e
  have listCase : ∀ {i : Nat} {va : Array Value} {W' : Gh} {σ2 : St}, i < σ.next → s.heap.PlainList (W.ad i).1 va → VRs W σ.next vs va.toList → Rep S W' σ2 s.heap → σ2.next = σ.next → xbu noX W σ.next s.heap W' σ.next s.heap → W'.ad i = W.ad i → W'.fz i = true → W'.T = W.T → σ2 = σ' →
      wpAny (model S.prog S.w) A (pyIter (.ref (W.ad i).1)) Q E s := by
    intro i va W' σ2 hi' hl hv R' hn t had hfz hTW he
    subst he
    refine wpAny_pyIter_list hl.isList ?_
    obtain ⟨R2, t2⟩ := R'.keep (h' := s.heap.push { cls := .type "list_iterator", data := .fields #[.ref (W.ad i).1, .int 0 0] }) (keep _)
    obtain ⟨ol, hol⟩ := (R.obj i hi').some1
    have hne : (W.ad i).1 ≠ s.heap.objs.size := Nat.ne_of_lt (Heap.lt_size hol)
    have hnot : ¬ Own W' σ2.next (W.ad i).1 := by
      rintro ⟨j, hj, hf, hb⟩
      have hj' : j < σ.next := hn ▸ hj
      by_cases q : j = i
      · subst q; rw [hfz] at hf; cases hf
      · have A1 := R'.apart i j (hn.symm ▸ hi') hj (Ne.symm q)
        rw [had] at A1
        rcases hb with hb | hb
        · exact A1.1 hb
        · exact A1.2.1 hb
    have hlen : vs.length = va.size := by have := hv.1; simpa using this
    rw [hn] at t2
    refine P W' _ _ R2 hn (by rw [hn]; exact t.comp t2) ⟨⟨_, [s.heap.objs.size, (W.ad i).1], _, _, hlen.symm, Walks.list r.handled s.heap.objs.size (W.ad i).1 hne va, ⟨⟨_, Heap.get?_push_size _ rfl, rfl, rfl⟩, hl.isList.at fun o e => keep _ _ o e⟩, ?_, ?_, ?_, ?_⟩, Nat.le_refl _, ⟨_, Heap.get?_push_size _ rfl⟩, by rw [Heap.size_push]; exact Nat.lt_succ_self _, by rw [hTW]; exact hTn⟩
    · rintro j h ⟨⟨o1, e1, _⟩, ⟨o2, e2, _⟩⟩ b hb
      rcases List.mem_cons.mp hb with rfl | hb
      · exact ⟨_, e1⟩
      · rw [List.mem_singleton.mp hb]; exact ⟨_, e2⟩
    · intro b hb
      rcases List.mem_cons.mp hb with rfl | hb
      · exact .inl rfl
      · rw [List.mem_singleton.mp hb]; exact .inr (.inl ⟨ol, hol, ⟨i, hn.symm ▸ hi', by rw [had]⟩, hnot⟩)
    · intro b hb
      rcases List.mem_cons.mp hb with rfl | hb
      · intro q
        obtain ⟨o, ho⟩ := R'.ownSome q
        exact Nat.lt_irrefl _ (Heap.lt_size ho)
      · rw [List.mem_singleton.mp hb]; exact hnot
    · intro j pv v h1 h2
      have h2' : va[j]? = some v := h2
      rw [← Array.getElem?_toList] at h2'
      rw [hn]
      exact t.vr (hv.2 j pv v h1 h2')
  have dictCase : ∀ {i : Nat} {es : List (Int × PV)} {kvs : List (Int × Value)} {W' : Gh} {σ2 : St}, i < σ.next → s.heap.DictOf (intKind S.prog S.w) (W.ad i).1 kvs → es.map (·.1) = kvs.map (·.1) → vs = es.map (fun kv => .int kv.1) → Rep S W' σ2 s.heap → σ2.next = σ.next → xbu noX W σ.next s.heap W' σ.next s.heap → W'.ad i = W.ad i → W'.fz i = true → W'.T = W.T → σ2 = σ' →
      wpAny (model S.prog S.w) A (pyIter (.ref (W.ad i).1)) Q E s := by
    intro i es kvs W' σ2 hi' hl hk hvs R' hn t had hfz hTW he
    subst he
    obtain ⟨ep, hl⟩ := hl.dictAt
    have habove := R.above i hi'
    have hsys : ((W.ad i).1 == sysModules) = false := by
      have h1 : sysModules ≤ mainGlobals := by decide
      rw [beq_eq_false_iff_ne]; exact Nat.ne_of_gt (Nat.lt_of_le_of_lt h1 habove)
    refine wpAny_pyIter_dict hsys hl ?_
    obtain ⟨R2, t2⟩ := R'.keep (h' := s.heap.push { cls := .type "dict_keyiterator", data := .fields #[.ref (W.ad i).1, .int 0 0, .int kvs.length 0, .int ep 0] }) (keep _)
    obtain ⟨ol, hol⟩ := (R.obj i hi').some1
    have hne : (W.ad i).1 ≠ s.heap.objs.size := Nat.ne_of_lt (Heap.lt_size hol)
    have hnot : ¬ Own W' σ2.next (W.ad i).1 := by
      rintro ⟨j, hj, hf, hb⟩
      have hj' : j < σ.next := hn ▸ hj
      by_cases q : j = i
      · subst q; rw [hfz] at hf; cases hf
      · have A1 := R'.apart i j (hn.symm ▸ hi') hj (Ne.symm q)
        rw [had] at A1
        rcases hb with hb | hb
        · exact A1.1 hb
        · exact A1.2.1 hb
    have hlen : vs.length = kvs.length := by
      have := congrArg List.length hk
      rw [hvs]; simpa using this
    rw [hn] at t2
    refine P W' _ _ R2 hn (by rw [hn]; exact t.comp t2) ⟨⟨_, [s.heap.objs.size, (W.ad i).1], _, _, hlen.symm, Walks.dictKeys (knd := intKind S.prog S.w) r.handled s.heap.objs.size (W.ad i).1 hne kvs ep, ⟨⟨_, Heap.get?_push_size _ rfl, rfl, rfl⟩, hl.at' fun o e => keep _ _ o e⟩, ?_, ?_, ?_, ?_⟩, Nat.le_refl _, ⟨_, Heap.get?_push_size _ rfl⟩, by rw [Heap.size_push]; exact Nat.lt_succ_self _, by rw [hTW]; exact hTn⟩
    · rintro j h ⟨⟨o1, e1, _⟩, ⟨o2, _, e2, _⟩⟩ b hb
      rcases List.mem_cons.mp hb with rfl | hb
      · exact ⟨_, e1⟩
      · rw [List.mem_singleton.mp hb]; exact ⟨_, e2⟩
    · intro b hb
      rcases List.mem_cons.mp hb with rfl | hb
      · exact .inl rfl
      · rw [List.mem_singleton.mp hb]; exact .inr (.inl ⟨ol, hol, ⟨i, hn.symm ▸ hi', by rw [had]⟩, hnot⟩)
    · intro b hb
      rcases List.mem_cons.mp hb with rfl | hb
      · intro q
        obtain ⟨o, ho⟩ := R'.ownSome q
        exact Nat.lt_irrefl _ (Heap.lt_size ho)
      · rw [List.mem_singleton.mp hb]; exact hnot
    · rintro j pv v h1 ⟨k, y, h2, h3⟩
      rw [hvs, List.getElem?_map] at h1
      obtain ⟨kv, h4, rfl⟩ := Option.map_eq_some_iff.mp h1
      have h5 : (es.map (·.1))[j]? = (kvs.map (·.1))[j]? := by rw [hk]
      rw [List.getElem?_map, List.getElem?_map, h4, h2] at h5
      cases h5
      obtain ⟨t, rfl⟩ := xow (show Value.isInt kv.1 v = true from h3)
      exact .int _ _
  unfold xbo at hi
  split at hi
  · rename_i ws
    split at hi
    case isFalse => cases hi
    rename_i hz
    cases hi
    cases hx with
    | tup ws vals a h1 h2 h3 =>
    have ht := (R.tup a _ h1)
    have hT : s.heap.IsTuple a vals.toArray := ⟨_, ht.1, rfl, 0, rfl⟩
    refine wpAny_pyIter_tuple hT ?_
    obtain ⟨R2, t2⟩ := R.keep (h' := s.heap.push { cls := .type "tuple_iterator", data := .fields #[.ref a, .int 0 0] }) (keep _)
    have hne : a ≠ s.heap.objs.size := Nat.ne_of_lt (Heap.lt_size ht.1)
    have hlen : vs.length = vals.toArray.size := by rw [List.size_toArray]; exact h2
    refine P W _ _ R2 rfl t2 ⟨⟨_, [s.heap.objs.size, a], _, _, hlen.symm, Walks.tuple r.handled s.heap.objs.size a hne vals.toArray, ⟨⟨_, Heap.get?_push_size _ rfl, rfl, rfl⟩, hT.at fun o e => keep _ _ o e⟩, ?_, ?_, ?_, ?_⟩, Nat.le_refl _, ⟨_, Heap.get?_push_size _ rfl⟩, by rw [Heap.size_push]; exact Nat.lt_succ_self _, hTn⟩
    · rintro j h ⟨⟨o1, e1, _⟩, ⟨o2, e2, _⟩⟩ b hb
      rcases List.mem_cons.mp hb with rfl | hb
      · exact ⟨_, e1⟩
      · rw [List.mem_singleton.mp hb]; exact ⟨_, e2⟩
    · intro b hb
      rcases List.mem_cons.mp hb with rfl | hb
      · exact .inl rfl
      · rw [List.mem_singleton.mp hb]; exact .inr (.inr ⟨_, h1⟩)
    · intro b hb
      rcases List.mem_cons.mp hb with rfl | hb
      · intro q
        obtain ⟨o, ho⟩ := R.ownSome q
        exact Nat.lt_irrefl _ (Heap.lt_size ho)
      · rw [List.mem_singleton.mp hb]; exact ht.2.1
    · intro j pv v e1 e2
      have e2' : vals.toArray[j]? = some v := e2
      rw [List.getElem?_toArray] at e2'
      exact h3 j pv v e1 e2'
  · rename_i a b
    split at hi
    case isFalse => cases hi
    rename_i hz
    cases hi
    cases hx with
    | rng a b t u v rr h1 =>
    have ht := (R.tup rr _ h1)
    have hrs : Builtin.Range.rangeSize a b 1 = ((b - a).toNat : Int) := by
      unfold Builtin.Range.rangeSize
      simp only [show (1 : Int) > 0 by decide, if_true, Int.ediv_one]
      split <;> omega
    have hsmall : Builtin.Range.small a b 1 = true := by
      unfold Builtin.Range.small
      rw [hrs]
      unfold Builtin.Range.rangeFitsLong
      simp only [show (1 : Int) > 0 by decide, if_true]
      simp only [Bool.and_eq_true, decide_eq_true_eq, Bool.or_eq_true, beq_iff_eq]
      omega
    refine wpAny_pyIter_range (show IsRange s.heap rr a b 1 t u v from ht.1) hsmall ?_
    rw [hrs]
    obtain ⟨R2, t2⟩ := R.keep (h' := s.heap.push { cls := .type "range_iterator", data := .fields #[rawInt a, rawInt ((b - a).toNat : Int), rawInt 1] }) (keep _)
    have hlen : (xib a b).length = (b - a).toNat := by simp [xib]
    refine P W _ _ R2 rfl t2 ⟨⟨_, [s.heap.objs.size], _, _, hlen.symm, Walks.range r.handled s.heap.objs.size a 1 (b - a).toNat, ?_, ?_, ?_, ?_, ?_⟩, Nat.le_refl _, ⟨_, Heap.get?_push_size _ rfl⟩, by rw [Heap.size_push]; exact Nat.lt_succ_self _, hTn⟩
    · show IsRangeIter _ _ _ _ _
      have e1 : a + ((0 : Nat) : Int) * 1 = a := by omega
      have e2 : (((b - a).toNat : Nat) : Int) - ((0 : Nat) : Int) = ((b - a).toNat : Int) := by omega
      rw [e1, e2]; exact Heap.get?_push_size _ rfl
    · intro j h st b hb
      rw [List.mem_singleton.mp hb]; exact ⟨_, st⟩
    · intro b hb
      exact .inl (List.mem_singleton.mp hb)
    · intro b hb
      rw [List.mem_singleton.mp hb]
      intro q
      obtain ⟨o, ho⟩ := R.ownSome q
      exact Nat.lt_irrefl _ (Heap.lt_size ho)
    · rintro j pv v e1 ⟨t, rfl⟩
      unfold xib at e1
      rw [List.getElem?_map] at e1
      obtain ⟨jj, h4, rfl⟩ := Option.map_eq_some_iff.mp e1
      rw [List.getElem?_range] at h4
      · cases h4
        have : a + (j : Int) * 1 = a + (j : Int) := by omega
        rw [this]; exact .int _ _
      · have := (List.getElem?_eq_some_iff.mp h4).1
        simpa using this
  · rename_i i
    cases hx with
    | ref i hi' =>
    have O := R.obj i hi'
    split at hi
    · rename_i ws ho
      cases hi
      have O' := O
      rw [ho] at O'
      obtain ⟨q, va, hl, hv, hz⟩ := O'
      obtain ⟨R', t'⟩ := R.freeze hi' (o' := .flist vs) ⟨q, va, hl, hv, hz⟩ (.inr ⟨_, rfl⟩)
      exact listCase hi' hl hv R' rfl t' rfl (by show (decide (i = i) || _) = true; simp) rfl rfl
    · rename_i ws ho
      cases hi
      have O' := O
      rw [ho] at O'
      obtain ⟨q, va, hl, hv, hz⟩ := O'
      obtain ⟨R', t'⟩ := R.freeze hi' (o' := .flist vs) ⟨q, va, hl, hv, hz⟩ (.inr ⟨_, rfl⟩)
      have hset : σ.set i (.flist vs) = σ := by
        show St.mk _ _ = _
        have : (fun j => if j = i then xg2.flist vs else σ.objs j) = σ.objs := by
          funext j
          by_cases q : j = i
          · rw [if_pos q, q, ho]
          · rw [if_neg q]
        rw [this]
      rw [hset] at R'
      exact listCase hi' hl hv R' rfl t' rfl (by show (decide (i = i) || _) = true; simp) rfl rfl
    · rename_i es ho
      cases hi
      have O' := O
      rw [ho] at O'
      obtain ⟨q, kvs, hl, hk, hv, hz⟩ := O'
      obtain ⟨R', t'⟩ := R.freeze hi' (o' := .fdict es) ⟨q, kvs, hl, hk, hv, hz⟩ (.inl ⟨_, rfl⟩)
      exact dictCase hi' hl hk rfl R' rfl t' rfl (by show (decide (i = i) || _) = true; simp) rfl rfl
    · rename_i es ho
      cases hi
      have O' := O
      rw [ho] at O'
      obtain ⟨q, kvs, hl, hk, hv, hz⟩ := O'
      obtain ⟨R', t'⟩ := R.freeze hi' (o' := .fdict es) ⟨q, kvs, hl, hk, hv, hz⟩ (.inl ⟨_, rfl⟩)
      have hset : σ.set i (.fdict es) = σ := by
        show St.mk _ _ = _
        have : (fun j => if j = i then xg2.fdict es else σ.objs j) = σ.objs := by
          funext j
          by_cases q : j = i
          · rw [if_pos q, q, ho]
          · rw [if_neg q]
        rw [this]
      rw [hset] at R'
      exact dictCase hi' hl hk rfl R' rfl t' rfl (by show (decide (i = i) || _) = true; simp) rfl rfl
    · cases hi
  · cases hi
end
section
open PySem PySem.W PyProof.Rows PySem.Calls
variable {S : xfo}
variable {d : Nat} {g : Gn} {ns : List Str}
theorem Rep.but {W : Gh} {σ : St} {h h' : Heap} {I : Addr} (R : Rep S W σ h) (hA : ¬ All W σ.next I) (h0 : S.h₀.get? I = none) (hT : W.T I = none) (hs : ∀ b o, b ≠ I → h.get? b = some o → h'.get? b = some o) : Rep S W σ h' :=
  ⟨fun b o e => hs b o (fun q => by rw [q, h0] at e; cases e) (R.base b o e),
   fun j hj => (R.obj j hj).mono (Nat.le_refl _) (fun _ _ => rfl) (fun _ _ e => e) (fun o e => hs _ o (fun q => hA ⟨j, hj, .inl q.symm⟩) e) (fun o e => hs _ o (fun q => hA ⟨j, hj, .inr q.symm⟩) e),
   R.apart, R.fresh, R.above, R.frz, fun a o e => ⟨hs a _ (fun q => by rw [q, hT] at e; cases e) (R.tup a o e).1, (R.tup a o e).2⟩⟩
theorem xbu.but {X : Addr → Prop} {W W' : Gh} {n n' : Nat} {h h1 h2 : Heap} {I : Addr} (t : xbu X W n h W' n' h1) (h0 : h.get? I = none) (hs : ∀ b o, b ≠ I → h1.get? b = some o → h2.get? b = some o) : xbu X W n h W' n' h2 :=
  ⟨t.nx, t.ad, t.T, t.fz, fun b o e n1 n2 => hs b o (fun q => by rw [q, h0] at e; cases e) (t.ext b o e n1 n2),
   fun b o e => let ⟨o', e'⟩ := t.dom b o e; ⟨o', hs b o' (fun q => by rw [q, h0] at e; cases e) e'⟩, t.new, t.Tn⟩
theorem Frm.but {env : Env} {W : Gh} {n : Nat} {h h' : Heap} {I : Addr} (F : Frm S env W n h) (hX : ¬ FX env I) (hs : ∀ b o, b ≠ I → h.get? b = some o → h'.get? b = some o) : Frm S env W n h' := by
  obtain ⟨m, hm⟩ := F.ns
  refine ⟨F.kind, F.glob, F.bltn, ⟨m, hm.at' fun o e => hs _ o (fun q => hX (.inl q.symm)) e⟩, F.own, F.base, fun x c e => ?_, F.apart⟩
  obtain ⟨⟨v, hv⟩, n1, n2⟩ := F.cell x c e
  exact ⟨⟨v, Heap.IsCell.at' hv fun o e' => hs _ o (fun q => hX (.inr ⟨x, q ▸ e⟩)) e'⟩, n1, n2⟩
theorem xi9.but {env : Env} {W : Gh} {n : Nat} {h h' : Heap} {I : Addr} {fr : xa6} (V : xi9 env W n h ns fr) (hX : ¬ FX env I) (hs : ∀ b o, b ≠ I → h.get? b = some o → h'.get? b = some o) : xi9 env W n h' ns fr := by
  intro k x pv h1 h2
  obtain ⟨v, hv, hh⟩ := V k x pv h1 h2
  refine ⟨v, hv, ?_⟩
  rcases hh with ⟨a, m, b, c⟩ | ⟨a, c, b, e⟩
  · exact .inl ⟨a, m, b.at' fun o e => hs _ o (fun q => hX (.inl q.symm)) e, c⟩
  · exact .inr ⟨a, c, b, Heap.IsCell.at' e fun o e' => hs _ o (fun q => hX (.inr ⟨x, q ▸ b⟩)) e'⟩
theorem Frm.fxSome {env : Env} {W : Gh} {n : Nat} {h : Heap} (F : Frm S env W n h) {b : Addr} (hb : FX env b) : ∃ o, h.get? b = some o := by
  rcases hb with rfl | ⟨x, hx⟩
  · obtain ⟨m, o, _, _, ho, _⟩ := F.ns; exact ⟨o, ho⟩
  · obtain ⟨⟨v, o, ho, _⟩, _⟩ := F.cell x b hx; exact ⟨o, ho⟩
def xeN (k : Nat) (b : xa6 → M (FR × xa6)) : List PV → xa6 → M (FR × xa6)
  | [], fr, σ => some ((.next, fr), σ)
  | v :: vs, fr, σ => bnd (b (fr.set k (some v)) σ) fun x σ1 => match x.1 with
      | .next => xeN k b vs x.2 σ1
      | .ret p => some ((.ret p, x.2), σ1)
def xeE (k : Nat) (a : xa6 → M PV) (b : xa6 → M (FR × xa6)) : xa6 → M (FR × xa6) := fun fr σ => bnd (a fr σ) fun x σ1 => match xbo x σ1 with
  | some (vs, σ2) => xeN k b vs fr σ2
  | none => none
theorem xf1 {x : Str} {p' p : Pos} {iter : Expr} {body : List Stmt} {a : xa6 → M PV} {b : xa6 → M (FR × xa6)} (k : Nat) (ha : SE S d g ns iter a) (hb : SB S d g ns body b) (hx : ns[k]? = some x := by rfl)
    (hs : ∀ env v, foldedSetIterable iter env v = pure v := by intros; rfl) : SS S d g ns (.For (.Name x p') iter body [] p) (xeE k a b) := by
  intro A env W fr σ s Q E f fr' σ' r gl T R F V e P
  obtain ⟨y, σ1, e1, e⟩ := xah e
  split at e
  case h_2 => cases e
  rename_i vs σ2 hi
  refine wpAny_For (ha A env W fr σ s _ E y σ1 r gl R F V e1 fun W1 vy h1 tk1 R1 t1 x1 => xnx r R1 x1 hi fun W2 I h2 R2 hn t2 IA => ?_) (hs env)
  obtain ⟨⟨m, fp, Pi, St, hm, Wk, hst, hval, hfp, hown, hP⟩, hfresh, ⟨oI, hoI⟩, hsz, tn⟩ := IA
  have hIfp : I ∈ fp := Wk.sub I (by simp)
  have hfr : h1.get? I = none := Heap.get?_none_of_le hfresh
  have t12 := t1.comp t2
  have F2 := F.trans t12
  have V2 := V.trans F t12
  have hI0 : s.heap.get? I = none := by
    cases q : s.heap.get? I with
    | none => rfl
    | some o => obtain ⟨o', e'⟩ := t1.dom I o q; rw [hfr] at e'; cases e'
  have hIX : ¬ FX env I := fun q => by obtain ⟨o, e'⟩ := (F.trans t1).fxSome q; rw [hfr] at e'; cases e'
  have hIb : S.h₀.get? I = none := by
    cases q : S.h₀.get? I with
    | none => rfl
    | some o => have := R1.base I o q; rw [hfr] at this; cases this
  have hIA : ¬ All W2 σ2.next I := fun q => by
    rw [hn] at q
    obtain ⟨i, hi', hb'⟩ := q
    rw [t2.ad i hi'] at hb'
    obtain ⟨o, ho⟩ := R1.allSome ⟨i, hi', hb'⟩
    rw [hfr] at ho; cases ho
  have hIT : W2.T I = none := tn
  have tupNot : ∀ (W : Gh) (σ : Mine.St) (h : Heap) (b : Addr) (o : Obj), Rep S W σ h → Frm S env W σ.next h → W.T b = some o → ¬ FX env b := by
    intro W σ h b o R F e q
    obtain ⟨ho, _, _, him⟩ := R.tup b o e
    rcases q with rfl | ⟨x, hx⟩
    · obtain ⟨m, o', _, _, ho', hd', _⟩ := F.ns
      rw [ho] at ho'; cases ho'
      rcases him with ⟨_, rfl⟩ | ⟨_, _, _, _, _, rfl⟩ | ⟨_, _, _, e⟩ <;> first | (cases hd'; done) | (rw [e] at hd'; cases hd')
    · obtain ⟨⟨v, o', ho', hd'⟩, _⟩ := F.cell x b hx
      rw [ho] at ho'; cases ho'
      rcases him with ⟨_, rfl⟩ | ⟨_, _, _, _, _, rfl⟩ | ⟨_, _, _, e⟩ <;> first | (cases hd'; done) | (rw [e] at hd'; cases hd')
  have hfX : ∀ b ∈ fp, ¬ FX env b := by
    intro b hb' q
    rcases hfp b hb' with rfl | ⟨o, _, ⟨i, hi', rfl⟩, _⟩ | ⟨o, ho⟩
    · exact hIX q
    · rcases q with q | ⟨x, hx⟩
      · exact F2.own ⟨i, hi', .inl q.symm⟩
      · exact (F2.cell x _ hx).2.1 ⟨i, hi', .inl rfl⟩
    · exact tupNot W2 σ2 h2 b o R2 F2 ho q
  refine codeAny_forLoop (fun k' s' => ∃ j W3 fr3 σ3 h3 tk3, s' = { s with heap := h3, toks := tk3 } ∧ Rep S W3 σ3 h3 ∧ xbu (FX env) W σ.next s.heap W3 σ3.next h3 ∧ Frm S env W3 σ3.next h3 ∧ xi9 env W3 σ3.next h3 ns fr3 ∧ St j h3 ∧
      (σ2.next ≤ σ3.next ∧ (∀ i, i < σ2.next → W3.ad i = W2.ad i) ∧ ∀ a v, W2.T a = some v → W3.T a = some v) ∧ (∀ b ∈ fp, ¬ Own W3 σ3.next b) ∧ (¬ All W3 σ3.next I ∧ W3.T I = none) ∧ j ≤ m ∧ k' = m + 1 - j ∧ xeN k b (vs.drop j) fr3 σ3 = some ((f, fr'), σ')) ?_ (m + 1)
    ⟨0, W2, fr, σ2, h2, tk1, rfl, R2, t12.toX, F2, V2, hst, ⟨Nat.le_refl _, fun _ _ => rfl, fun _ _ e => e⟩, hown, ⟨hIA, hIT⟩, Nat.zero_le _, rfl, e⟩
  rintro k' s' ⟨j, W3, fr3, σ3, h3, tk3, rfl, R3, t3, F3, V3, hst3, hmono, hown3, ⟨hIA3, hIT3⟩, hj, rfl, e⟩
  have butOf : ∀ (h4 : Heap), (∀ b o, b ∉ [I] → h3.get? b = some o → h4.get? b = some o) → ∀ b o, b ≠ I → h3.get? b = some o → h4.get? b = some o := fun h4 hk b o hb => hk b o (by simp [hb])
  by_cases hlt : j < m
  · refine Wk.item j _ _ _ hlt hst3 fun v h4 tk4 hPv hst4 hk4 => ?_
    have hk := butOf h4 hk4
    have R4 := R3.but hIA3 hIb hIT3 hk
    have t4 := t3.but hI0 hk
    have F4 := F3.but hIX hk
    have V4 := V3.but hIX hk
    have hjv : j < vs.length := hm ▸ hlt
    have hget : vs[j]? = some vs[j] := by simp [hjv]
    rw [List.drop_eq_getElem_cons hjv] at e
    obtain ⟨⟨f1, fr1⟩, σ5, e5, e⟩ := xah e
    have hv : VR W3 σ3.next vs[j] v := (hP j vs[j] v hget hPv).mono hmono.1 hmono.2.1 hmono.2.2
    refine wpAny_assign_Name (xgu T R4 F4 V4 hx hv fun h5 tk5 R5 t5 F5 V5 => ?_)
    refine hb A env W3 _ σ3 _ _ _ f1 fr1 σ5 r gl T R5 F5 V5 e5 fun W6 f6 h6 tk6 R6 t6 F6 V6 hf => ?_
    have t56 : xbu (FX env) W3 σ3.next h4 W6 σ5.next h6 := t5.comp t6
    have t := t4.comp t56
    cases f1 with
    | next =>
      cases f6 with
      | next =>
        refine ⟨m + 1 - (j + 1), by omega, j + 1, W6, fr1, σ5, h6, tk6, rfl, R6, t, F6, V6, ?_, ⟨Nat.le_trans hmono.1 t56.nx, fun i hi' => (t56.ad i (Nat.lt_of_lt_of_le hi' hmono.1)).trans (hmono.2.1 i hi'), fun a v q => t56.T a v (hmono.2.2 a v q)⟩, ?_, ⟨?_, ?_⟩, hlt, rfl, e⟩
        · exact Wk.frame _ _ _ hst4 fun b hb' o e' => t56.ext b o e' (hown3 b hb') (hfX b hb')
        · intro b hb' q
          obtain ⟨o, ho⟩ := hval _ _ hst4 b hb'
          exact hown3 b hb' (t56.own_back ho q)
        · intro q
          obtain ⟨o, ho⟩ := hval _ _ hst4 I (hIfp)
          exact hIA3 (t56.all_back ho q)
        · exact t56.Tn I hIT3 (hval _ _ hst4 I hIfp)
      | _ => exact hf.elim
    | ret v =>
      cases e
      cases f6 with
      | ret vv => exact P W6 (.ret vv) h6 tk6 R6 t F6 V6 hf
      | _ => exact hf.elim
  · have hjm : j = m := by omega
    subst hjm
    refine Wk.done _ _ _ hst3 fun h4 tk4 hk4 => wpAny_execs_nil ?_
    have hk := butOf h4 hk4
    rw [List.drop_eq_nil_of_le (by omega)] at e
    cases e
    exact P W3 .next h4 tk4 (R3.but hIA3 hIb hIT3 hk) (t3.but hI0 hk) (F3.but hIX hk) (V3.but hIX hk) trivial
end
section
open PySem PySem.W PyProof.Rows PySem.Calls
variable {S : xfo}
variable {d : Nat} {g : Gn} {ns : List Str}
def xna (env : Env) : List (Str × NameKind) → List (Str × Addr) → List (Str × Addr)
  | [], acc => acc
  | (n, k) :: r, acc => if k == .free then xna env r ((n, (env.cells.lookup n).getD 0) :: acc) else xna env r acc
theorem xoX {env : Env} : ∀ (names : List (Str × NameKind)) (acc : List (Str × Addr)), (∀ y ∈ names, y.2 = .free → ∃ c, env.cells.lookup y.1 = some c) →
    (forIn names acc (fun (y : Str × NameKind) (r : List (Str × Addr)) => (if (y.2 == .free) = true then (cellOf env y.1 >>= fun c => pure (ForInStep.yield ((y.1, c) :: r))) else pure (ForInStep.yield r) : Sem (ForInStep (List (Str × Addr)))))) = pure (xna env names acc) := by
  intro names
  induction names with
  | nil => intro acc _; rfl
  | cons p r ih =>
    obtain ⟨n, k⟩ := p
    intro acc h
    rw [List.forIn_cons]
    have h' : ∀ y ∈ r, y.2 = .free → ∃ c, env.cells.lookup y.1 = some c := fun y hy => h y (List.mem_cons_of_mem _ hy)
    unfold xna
    by_cases q : (k == NameKind.free) = true
    · obtain ⟨c, hc⟩ := h (n, k) (List.mem_cons_self ..) (beq_iff_eq.mp q)
      simp only [q, if_true]
      unfold cellOf
      rw [hc]
      exact ih _ h'
    · simp only [q, if_false]
      exact ih _ h'
theorem xhg {env : Env} {scope : Scope} (h : ∀ y ∈ scope.names, y.2 = .free → ∃ c, env.cells.lookup y.1 = some c) : closureFor scope env = pure (xna env scope.names []) := by
  have := xoX (env := env) scope.names [] h
  unfold closureFor
  simp only [bind_pure]
  rw [← this]
theorem xqW {env : Env} : ∀ (names : List (Str × NameKind)) (acc : List (Str × Addr)), (∀ y ∈ names, y.2 = .free → ∃ c, env.cells.lookup y.1 = some c) → (∀ x c, acc.lookup x = some c → env.cells.lookup x = some c) →
    ∀ x c, (xna env names acc).lookup x = some c → env.cells.lookup x = some c := by
  intro names
  induction names with
  | nil => intro acc _ h; exact h
  | cons p r ih =>
    obtain ⟨n, k⟩ := p
    intro acc h ha
    have h' : ∀ y ∈ r, y.2 = .free → ∃ c, env.cells.lookup y.1 = some c := fun y hy => h y (List.mem_cons_of_mem _ hy)
    unfold xna
    split
    · rename_i q
      obtain ⟨c, hc⟩ := h (n, k) (List.mem_cons_self ..) (beq_iff_eq.mp q)
      refine ih _ h' fun x c' e => ?_
      rw [List.lookup_cons] at e
      cases z : x == n with
      | true => rw [z] at e; dsimp only at e; rw [hc] at e; cases e; rw [beq_iff_eq.mp z]; exact hc
      | false => rw [z] at e; exact ha x c' e
    · exact ih _ h' ha
theorem xrc {env : Env} : ∀ (names : List (Str × NameKind)) (acc : List (Str × Addr)) (x : Str), ((∃ c, acc.lookup x = some c) ∨ (x, NameKind.free) ∈ names) → ∃ c, (xna env names acc).lookup x = some c := by
  intro names
  induction names with
  | nil => intro acc x h; rcases h with h | h; exact h; simp at h
  | cons p r ih =>
    obtain ⟨n, k⟩ := p
    intro acc x h
    unfold xna
    split
    · rename_i q
      refine ih _ x ?_
      by_cases z : x = n
      · subst z; exact .inl ⟨_, by rw [List.lookup_cons, beq_self_eq_true]⟩
      · rcases h with ⟨c, h⟩ | h
        · exact .inl ⟨c, by rw [List.lookup_cons, beq_false_of_ne z]; exact h⟩
        · rcases List.mem_cons.mp h with h | h
          · cases h; exact absurd rfl z
          · exact .inr h
    · rename_i q
      refine ih _ x ?_
      rcases h with h | h
      · exact .inl h
      · rcases List.mem_cons.mp h with h | h
        · cases h; exact absurd rfl q
        · exact .inr h
theorem xfb {env : Env} : ∀ {names : List (Str × NameKind)} {x : Str} {k : NameKind}, names.lookup x = some k →
    (names.map fun (n, k) => if (k == NameKind.free && env.scope.kind == .function && env.kindOf n == some .cell) then (n, NameKind.cell) else (n, k)).lookup x = some k ∨
    (k = .free ∧ (names.map fun (n, k) => if (k == NameKind.free && env.scope.kind == .function && env.kindOf n == some .cell) then (n, NameKind.cell) else (n, k)).lookup x = some .cell)
  | [], _, _, h => by simp at h
  | (n, k0) :: r, x, k, h => by
    have ih := @xfb env r x k
    show List.lookup x ((if (k0 == NameKind.free && env.scope.kind == .function && env.kindOf n == some .cell) = true then (n, NameKind.cell) else (n, k0)) :: List.map _ r) = _ ∨
      _ ∧ List.lookup x ((if (k0 == NameKind.free && env.scope.kind == .function && env.kindOf n == some .cell) = true then (n, NameKind.cell) else (n, k0)) :: List.map _ r) = _
    by_cases hx : x = n
    · subst hx
      rw [List.lookup_cons, beq_self_eq_true] at h
      cases h
      by_cases hc : (k0 == NameKind.free && env.scope.kind == .function && env.kindOf x == some .cell) = true
      · rw [if_pos hc]
        refine .inr ⟨?_, ?_⟩
        · rw [Bool.and_eq_true, Bool.and_eq_true] at hc; exact beq_iff_eq.mp hc.1.1
        · rw [List.lookup_cons, beq_self_eq_true]
      · rw [if_neg hc]
        refine .inl ?_
        rw [List.lookup_cons, beq_self_eq_true]
    · have hb : (x == n) = false := beq_false_of_ne hx
      rw [List.lookup_cons, hb] at h
      by_cases hc : (k0 == NameKind.free && env.scope.kind == .function && env.kindOf n == some .cell) = true
      · rw [if_pos hc, List.lookup_cons, hb]; exact ih h
      · rw [if_neg hc, List.lookup_cons, hb]; exact ih h
def xli (scope : Scope) (g : Gn) (ns : List Str) (keep : List Bool) (x : Str) (g' : Gn) : Bool :=
  scope.kind == .function && scope.names.all (fun y => y.2 != .cell) && scope.names.all (fun y => y.2 != .local || scope.names.lookup y.1 == some .local) && scope.names.lookup x == some .local &&
  g'.glob.all (fun y => scope.names.lookup y == some .globalImplicit) && g'.cell.isEmpty && scope.names.all (fun y => y.2 != .free || g.cell.contains y.1) &&
  (ns.zip keep).all (fun y => !y.2 || (scope.names.lookup y.1 == some .free && scope.names.contains (y.1, .free)))
structure xmJ (scope : Scope) (g : Gn) (ns : List Str) (keep : List Bool) (x : Str) (g' : Gn) : Prop where
  kind : scope.kind = .function
  noCell : ∀ y ∈ scope.names, y.2 ≠ .cell
  names : ∀ y ∈ scope.names, y.2 = .local → scope.names.lookup y.1 = some .local
  target : scope.names.lookup x = some .local
  glob : ∀ y ∈ g'.glob, scope.names.lookup y = some .globalImplicit
  cell : g'.cell = []
  free : ∀ y ∈ scope.names, y.2 = .free → y.1 ∈ g.cell
  keep : ∀ (k : Nat) (y : Str), ns[k]? = some y → keep[k]? = some true → scope.names.lookup y = some .free ∧ (y, NameKind.free) ∈ scope.names
theorem xmJ.of {scope : Scope} {g : Gn} {ns : List Str} {keep : List Bool} {x : Str} {g' : Gn} (h : xli scope g ns keep x g' = true) : xmJ scope g ns keep x g' := by
  simp only [xli, Bool.and_eq_true, List.all_eq_true, bne_iff_ne, ne_eq, Bool.or_eq_true, beq_iff_eq, List.isEmpty_iff, Bool.not_eq_true', List.contains_iff_mem] at h
  obtain ⟨⟨⟨⟨⟨⟨⟨h1, h2⟩, h3⟩, h4⟩, h5⟩, h6⟩, h7⟩, h8⟩ := h
  refine ⟨h1, h2, fun y hy e => (h3 y hy).resolve_left (fun q => q e), h4, h5, h6, fun y hy e => (h7 y hy).resolve_left (fun q => q e), fun k y e1 e2 => ?_⟩
  have : (y, true) ∈ ns.zip keep := List.mem_of_getElem? (i := k) (by rw [List.getElem?_zip_eq_some]; exact ⟨e1, e2⟩)
  exact (h8 _ this).resolve_left (by simp)
def xeO : List Bool → xa6 → xa6
  | b :: bs, v :: fr => (if b then v else none) :: xeO bs fr
  | _, _ => []
theorem xlU : ∀ {bs : List Bool} {fr : xa6} {k : Nat} {pv : PV}, (xeO bs fr)[k]? = some (some pv) → bs[k]? = some true ∧ fr[k]? = some (some pv)
  | b :: bs, v :: fr, 0, pv, h => by
    simp only [xeO, List.getElem?_cons_zero, Option.some.injEq] at h ⊢
    cases b with
    | true => exact ⟨rfl, by simpa using h⟩
    | false => simp at h
  | b :: bs, v :: fr, k + 1, pv, h => by
    simp only [xeO, List.getElem?_cons_succ] at h ⊢
    exact xlU h
  | [], _, _, _, h => by simp [xeO] at h
  | _ :: _, [], _, _, h => by simp [xeO] at h
def xev (t : xa6 → M Bool) (e : xa6 → M PV) (fr : xa6) : List PV → List PV → St → Option (List PV × St)
  | [], acc, σ => some (acc, σ)
  | v :: vs, acc, σ => bnd (t (some v :: fr) σ) fun b σ1 => if b then bnd (e (some v :: fr) σ1) fun y σ2 => if acc.length < 1000 then xev t e fr vs (acc ++ [y]) σ2 else none else xev t e fr vs acc σ1
def xdg (keep : List Bool) (a : xa6 → M PV) (t : xa6 → M Bool) (e : xa6 → M PV) : xa6 → M PV := fun fr σ => bnd (a fr σ) fun x σ1 => match xbo x σ1 with
  | some (vs, σ2) => bnd (xev t e (xeO keep fr) vs [] σ2) fun ys σ3 => xnM ys σ3
  | none => none
def xmu (S : xfo) (d : Nat) (g : Gn) (ns : List Str) (ifs : List Expr) (m : xa6 → M Bool) : Prop :=
  ∀ (A : Around) (env : Env) (W : Gh) (fr : xa6) (σ : St) (s : Shared) (Q : Bool → Shared → Prop) (E : Value → Shared → Prop) (b : Bool) (σ' : St),
    xhK d A → GL g env → Rep S W σ s.heap → Frm S env W σ.next s.heap → xi9 env W σ.next s.heap ns fr → m fr σ = some (b, σ') → xmz S W σ.next s b σ' Q →
    wpAny (model S.prog S.w) A (forIn ifs true fun c r => if r = true then do let ok ← isTrue c env (eval c env); pure (ForInStep.yield ok) else pure (ForInStep.yield r)) Q E s
theorem xfh : xmu S d g ns [] xbV := by
  intro A env W fr σ s Q E b σ' r gl R F V e P
  cases e
  exact wpAny_tests_nil (P.here R s.toks)
theorem xdQ {c : Expr} {t : xa6 → M Bool} (h : ST S d g ns c t) : xmu S d g ns [c] t := by
  intro A env W fr σ s Q E b σ' r gl R F V e P
  exact wpAny_tests_one (h A env W fr σ s Q E b σ' r gl R F V e P)
structure Out (S : xfo) (W : Gh) (n : Nat) (a : Addr) : Prop where
  own : ¬ All W n a
  tup : W.T a = none
  base : S.h₀.get? a = none
theorem Out.trans {X : Addr → Prop} {W W' : Gh} {n n' : Nat} {h h' : Heap} {a : Addr} (o : Out S W n a) (t : xbu X W n h W' n' h') (he : ∃ o, h.get? a = some o) : Out S W' n' a :=
  ⟨fun q => let ⟨_, e⟩ := he; o.own (t.all_back e q), t.Tn a o.tup he, o.base⟩
theorem Out.new {W : Gh} {σ : St} {h : Heap} (R : Rep S W σ h) {a : Addr} (ha : h.get? a = none) : Out S W σ.next a := by
  refine ⟨fun q => ?_, ?_, ?_⟩
  · obtain ⟨o, e⟩ := R.allSome q; rw [ha] at e; cases e
  · cases q : W.T a with
    | none => rfl
    | some o => have := (R.tup a o q).1; rw [ha] at this; cases this
  · cases q : S.h₀.get? a with
    | none => rfl
    | some o => have := R.base a o q; rw [ha] at this; cases this
theorem Rep.but' {W : Gh} {σ : St} {h h' : Heap} {I : Addr} (R : Rep S W σ h) (o : Out S W σ.next I) (hs : ∀ b o, b ≠ I → h.get? b = some o → h'.get? b = some o) : Rep S W σ h' := R.but o.own o.base o.tup hs
theorem Rep.adopt {X : Addr → Prop} {W W0 : Gh} {n0 : Nat} {h0 : Heap} {σ : St} {h : Heap} (R : Rep S W σ h) (t : xbu X W0 n0 h0 W σ.next h) {a : Addr} {vs : List PV} {vals : Array Value} (o : Out S W σ.next a) (h0n : h0.get? a = none) (hl : h.PlainList a vals) (hv : VRs W σ.next vs vals.toList) (hz : vs.length ≤ 1000) (hab : mainGlobals < a) :
    Rep S (W.add σ.next (a, a)) (σ.push (.list vs)) h ∧ xbu X W0 n0 h0 (W.add σ.next (a, a)) (σ.next + 1) h ∧ VR (W.add σ.next (a, a)) (σ.next + 1) (.ref σ.next) (.ref a) := by
  have had : ∀ j, j < σ.next → (W.add σ.next (a, a)).ad j = W.ad j := fun j hj => if_neg (Nat.ne_of_lt hj)
  have hfz : ∀ j, j < σ.next → (W.add σ.next (a, a)).fz j = W.fz j := fun j hj => if_neg (Nat.ne_of_lt hj)
  have e : (W.add σ.next (a, a)).ad σ.next = (a, a) := if_pos rfl
  have ne1 : ∀ j, j < σ.next → (W.ad j).1 ≠ a ∧ (W.ad j).2 ≠ a := fun j hj => ⟨fun q => o.own ⟨j, hj, .inl q.symm⟩, fun q => o.own ⟨j, hj, .inr q.symm⟩⟩
  refine ⟨⟨R.base, fun j hj => ?_, fun i j hi hj hij => ?_, fun j hj => ?_, fun j hj => ?_, fun j hj hf => ?_, fun b ob e' => ?_⟩,
    ⟨Nat.le_trans t.nx (Nat.le_succ _), fun i hi => (had i (Nat.lt_of_lt_of_le hi t.nx)).trans (t.ad i hi), t.T, fun i hi q => (hfz i (Nat.lt_of_lt_of_le hi t.nx)).trans (t.fz i hi q), t.ext, t.dom, fun i h1 h2 => ?_, t.Tn⟩, ?_⟩
  · show xgH S _ (σ.next + 1) h _ (if j = σ.next then _ else σ.objs j)
    by_cases q : j = σ.next
    · subst q
      rw [e, if_pos rfl]
      exact ⟨rfl, _, hl, hv.mono (Nat.le_succ _) had fun _ _ e => e, hz⟩
    · have hj' : j < σ.next := by have : j < σ.next + 1 := hj; omega
      rw [if_neg q, had j hj']
      exact (R.obj j hj').mono (Nat.le_succ _) had (fun _ _ e => e) (fun _ e => e) (fun _ e => e)
  · by_cases q : i = σ.next
    · subst q
      have hj' : j < σ.next := by have : j < σ.next + 1 := hj; omega
      rw [e, had j hj']
      have := ne1 j hj'
      exact ⟨Ne.symm this.1, Ne.symm this.2, Ne.symm this.2⟩
    · have hi' : i < σ.next := by have : i < σ.next + 1 := hi; omega
      by_cases q2 : j = σ.next
      · subst q2
        rw [e, had i hi']
        have := ne1 i hi'
        exact ⟨this.1, this.1, this.2⟩
      · have hj' : j < σ.next := by have : j < σ.next + 1 := hj; omega
        rw [had i hi', had j hj']
        exact R.apart i j hi' hj' hij
  · by_cases q : j = σ.next
    · subst q; rw [e]; exact ⟨o.base, o.base⟩
    · have hj' : j < σ.next := by have : j < σ.next + 1 := hj; omega
      rw [had j hj']; exact R.fresh j hj'
  · by_cases q : j = σ.next
    · subst q; rw [e]; exact hab
    · have hj' : j < σ.next := by have : j < σ.next + 1 := hj; omega
      rw [had j hj']; exact R.above j hj'
  · by_cases q : j = σ.next
    · subst q
      have : (W.add σ.next (a, a)).fz σ.next = false := if_pos rfl
      rw [this] at hf; cases hf
    · have hj' : j < σ.next := by have : j < σ.next + 1 := hj; omega
      rw [hfz j hj'] at hf
      show (∃ es, (if j = σ.next then _ else σ.objs j) = _) ∨ ∃ vs, (if j = σ.next then _ else σ.objs j) = _
      rw [if_neg q]; exact R.frz j hj' hf
  · have tt := R.tup b ob e'
    refine ⟨tt.1, fun q => ?_, tt.2.2⟩
    obtain ⟨j, hj, hf, hb⟩ := q
    by_cases q : j = σ.next
    · subst q
      rw [e] at hb
      have : b = a := by rcases hb with hb | hb <;> exact hb
      rw [this] at e'
      have z : W.T a = some ob := e'
      rw [o.tup] at z; cases z
    · have hj' : j < σ.next := by have : j < σ.next + 1 := hj; omega
      rw [had j hj'] at hb
      rw [hfz j hj'] at hf
      exact tt.2.1 ⟨j, hj', hf, hb⟩
  · by_cases q : i = σ.next
    · subst q; rw [e]; exact ⟨h0n, h0n⟩
    · have hi' : i < σ.next := by omega
      rw [had i hi']; exact t.new i h1 hi'
  · have := VR.ref (W := W.add σ.next (a, a)) (n := σ.next + 1) σ.next (Nat.lt_succ_self _)
    rwa [e] at this
end
section
open PySem PySem.W PyProof.Rows PySem.Calls
variable {S : xfo}
variable {d : Nat} {g : Gn} {ns : List Str}
theorem xm7 {A : Around} {env : Env} {W0 W2 : Gh} {n0 : Nat} {h0 hb : Heap} {fr : xa6} {σ2 σe : Mine.St} {s : Shared} {E : Value → Shared → Prop} {x : Str} {px : Pos} {elt iter : Expr} {ifs : List Expr} {scope : Scope} {pos : Pos} {keep : List Bool} {g' : Gn}
    {t : xa6 → M Bool} {e : xa6 → M PV} {vs ys : List PV} {I : Addr} {RR : Value → Addr → Result → Shared → Prop}
    (r : xhK d A) (ok : xmJ scope g ns keep x g') (gl : GL g env) (F : Frm S env W0 n0 h0) (V : xi9 env W0 n0 h0 ns fr) (T : xbu noX W0 n0 h0 W2 σ2.next s.heap) (R : Rep S W2 σ2 s.heap) (IA : xrz S A W2 σ2.next s.heap hb vs I) (hI0 : h0.get? I = none) (hIo : Out S W2 σ2.next I)
    (ht : xmu S d g' (x :: ns) ifs t) (he : SE S d g' (x :: ns) elt e) (hr : xev t e (xeO keep fr) vs [] σ2 = some (ys, σe))
    (hRR : ∀ W' D C h' tk m' vals, Rep S W' σe h' → xbu noX W0 n0 h0 W' σe.next h' → h'.Ns C m' → h'.PlainList D vals → VRs W' σe.next ys vals.toList → ys.length ≤ 1000 → Out S W' σe.next D → Out S W' σe.next C → h0.get? D = none → h0.get? C = none → D ≠ C → mainGlobals < D →
      RR (.ref D) C (.ok .next) { s with heap := h', toks := tk }) :
    wpAny (model S.prog S.w) A (newList []) (fun acc s₃ => wpAny (model S.prog S.w) A (newFunctionEnv scope env.globals (xna env scope.names []) [] env.qual none .none (some env)) (fun cenv s₄ =>
      codeAny (model S.prog S.w) A (.compStart (.ListComp elt [⟨.Name x px, iter, ifs, 0⟩] scope pos) 0 (.ref I) acc { cenv with scope := relabel scope env }) (RR acc cenv.locals) s₄) E s₃) E s := by
  obtain ⟨⟨m, fp, Pi, St, hm, Wk, hst, hval, hfp, hown, hP⟩, hfresh, ⟨oI, hoI⟩, hsz, tn⟩ := IA
  have hIfp : I ∈ fp := Wk.sub I (by simp)
  have hfree : ∀ y ∈ scope.names, y.2 = .free → ∃ c, env.cells.lookup y.1 = some c := fun y hy q => (gl.cell _ (ok.free y hy q)).2
  have hmg : mainGlobals < s.heap.objs.size := (S.T.g.keeps R.base).lt
  refine wpAny_newObj_type (wpAny_newFunctionEnv ok.noCell (by intro y hy; simp at hy) (fun h₁ hns₁ hsb₁ => ?_) ok.kind)
  dsimp only at hns₁ hsb₁ ⊢
  generalize hH2 : s.heap.push { cls := .type "list", dict := none, data := .seq ([] : List Value).toArray } = H2 at hns₁ hsb₁ ⊢
  have hC : H2.objs.size = s.heap.objs.size + 1 := by rw [← hH2, Heap.size_push]
  generalize hCe : H2.objs.size = C at hns₁ hsb₁ hC ⊢
  generalize hDe : s.heap.objs.size = D at hC hmg hsz ⊢
  have hD1 : s.heap.objs.size ≤ D := Nat.le_of_eq hDe
  have hD2 : D ≤ s.heap.objs.size := Nat.le_of_eq hDe.symm
  have hC1 : s.heap.objs.size + 1 ≤ C := Nat.le_trans (Nat.succ_le_succ hD1) (Nat.le_of_eq hC.symm)
  have hDC : D ≠ C := Nat.ne_of_lt (Nat.lt_of_lt_of_le (Nat.lt_succ_of_le hD2) hC1)
  have hDn : s.heap.get? D = none := Heap.get?_none_of_le hD1
  have hCn : s.heap.get? C = none := Heap.get?_none_of_le (Nat.le_of_succ_le hC1)
  have h0of : ∀ a, s.heap.get? a = none → h0.get? a = none := fun a ha => by
    cases q : h0.get? a with
    | none => rfl
    | some o => obtain ⟨o', e'⟩ := T.dom a o q; rw [ha] at e'; cases e'
  have hD0 := h0of D hDn
  have hC0 := h0of C hCn
  have hDI : D ≠ I := Ne.symm (Nat.ne_of_lt hsz)
  have hCI : C ≠ I := Ne.symm (Nat.ne_of_lt (Nat.lt_of_lt_of_le hsz (Nat.le_trans hD2 (Nat.le_of_succ_le hC1))))
  have below : ∀ b, b < s.heap.objs.size → b ≠ C ∧ b ≠ D := fun b hb => ⟨Nat.ne_of_lt (Nat.lt_of_lt_of_le hb (Nat.le_of_succ_le hC1)), Nat.ne_of_lt (Nat.lt_of_lt_of_le hb hD1)⟩
  have old : ∀ b o, s.heap.get? b = some o → h₁.get? b = some o := fun b o e => hsb₁.extBut b o (below b (Heap.lt_size e)).1 (Heap.get?_push_of_some _ (hH2 ▸ Heap.get?_push_of_some _ e))
  have hacc : h₁.PlainList D #[] := ⟨_, hsb₁.extBut _ _ hDC (Heap.get?_push_of_some _ (hH2 ▸ hDe ▸ Heap.get?_push_size _ rfl))⟩
  have hst₁ : St 0 h₁ := Wk.frame _ _ _ hst fun b _ o e => old b o e
  have hfpo : ∀ b ∈ fp, b ≠ C ∧ b ≠ D := fun b hb => by
    obtain ⟨o, ho⟩ := hval _ _ hst b hb
    exact below b (Heap.lt_size ho)
  obtain ⟨R1, T1⟩ := R.keep old
  have T01 := T.comp T1
  have oC : Out S W2 σ2.next C := .new R hCn
  have oD : Out S W2 σ2.next D := .new R hDn
  have hcsub : ∀ y c, (xna env scope.names []).lookup y = some c → env.cells.lookup y = some c := xqW scope.names [] hfree (fun x c h => by cases h)
  have FC : ∀ (W3 : Gh) (n3 : Nat) (h3 : Heap), xbu noX W0 n0 h0 W3 n3 h3 → (∃ m, h3.Ns C m) → Out S W3 n3 C → Frm S (compEnvC scope (xna env scope.names []) C env) W3 n3 h3 := by
    intro W3 n3 h3 t hn o
    refine ⟨ok.kind, F.glob, F.bltn, hn, o.own, o.base, fun y c hy => ?_, fun y z c h1 h2 => F.apart y z c (hcsub y c h1) (hcsub z c h2)⟩
    obtain ⟨⟨v, hv⟩, n1, n2⟩ := F.cell y c (hcsub y c hy)
    obtain ⟨o', ho', _⟩ := id hv
    exact ⟨⟨v, Heap.IsCell.at' hv fun o e => t.ext _ o e (fun q => n1 q.all) (fun q => q)⟩, fun q => n1 (t.all_back ho' q), n2⟩
  have VC : ∀ (W3 : Gh) (n3 : Nat) (h3 : Heap) (m3 : Str → Option Value) (pv : PV) (v : Value), xbu noX W0 n0 h0 W3 n3 h3 → h3.Ns C m3 → m3 x = some v → VR W3 n3 pv v → xi9 (compEnvC scope (xna env scope.names []) C env) W3 n3 h3 (x :: ns) (some pv :: xeO keep fr) := by
    intro W3 n3 h3 m3 pv v t hn hv hpv k y pv' h1 h2
    cases k with
    | zero =>
      simp only [List.getElem?_cons_zero, Option.some.injEq] at h1 h2
      subst h1; subst h2
      exact ⟨v, hpv, .inl ⟨lookup_relabel_local ok.target, m3, hn, hv⟩⟩
    | succ k =>
      simp only [List.getElem?_cons_succ] at h1 h2
      obtain ⟨hk, hf⟩ := xlU h2
      obtain ⟨hl, hmem⟩ := ok.keep k y h1 hk
      obtain ⟨v', hv', hh⟩ := V k y pv' h1 hf
      have hkc := gl.cell y (ok.free (y, .free) hmem rfl)
      obtain ⟨c, hc⟩ := xrc (env := env) scope.names [] y (.inr hmem)
      have hc' := hcsub y c hc
      refine ⟨v', t.vr hv', .inr ⟨?_, c, hc, ?_⟩⟩
      · rcases xfb (env := env) hl with q | ⟨_, q⟩
        · exact .inr q
        · exact .inl q
      · rcases hh with ⟨a, _⟩ | ⟨_, c2, b, e2⟩
        · rw [hkc.1] at a; cases a
        · rw [hc'] at b; cases b
          exact Heap.IsCell.at' e2 fun o e => t.ext _ o e (fun q => (F.cell y c hc').2.1 q.all) (fun q => q)
  have GC : GL g' (compEnvC scope (xna env scope.names []) C env) := by
    refine ⟨fun y hy => ?_, fun y hy => ?_⟩
    · rcases xfb (env := env) (ok.glob y hy) with q | ⟨q, _⟩
      · exact q
      · cases q
    · rw [ok.cell] at hy; cases hy
  have hkx : (compEnvC scope (xna env scope.names []) C env).kindOf x = some .local := lookup_relabel_local ok.target
  have loop : ∀ s₃ : Shared, s₃ = { s with heap := h₁, toks := s.toks + ([] : List (Str × Value)).length } →
      codeAny (model S.prog S.w) A (.compLoop (.ListComp elt [⟨.Name x px, iter, ifs, 0⟩] scope pos) 0 (.ref I) (.ref D) (compEnvC scope (xna env scope.names []) C env)) (RR (.ref D) C) s₃ := by
    rintro s₃ rfl
    refine codeAny_compLoop_tests (fun k' s' => ∃ j W3 σ3 h3 tk3 vals acc, s' = { s with heap := h3, toks := tk3 } ∧ Rep S W3 σ3 h3 ∧ xbu noX W0 n0 h0 W3 σ3.next h3 ∧ (∃ m, h3.Ns C m) ∧ h3.PlainList D vals ∧ VRs W3 σ3.next acc vals.toList ∧ acc.length ≤ 1000 ∧ St j h3 ∧
      (σ2.next ≤ σ3.next ∧ (∀ i, i < σ2.next → W3.ad i = W2.ad i) ∧ ∀ a v, W2.T a = some v → W3.T a = some v) ∧ (∀ b ∈ fp, ¬ Own W3 σ3.next b) ∧ (Out S W3 σ3.next I ∧ Out S W3 σ3.next C ∧ Out S W3 σ3.next D) ∧ j ≤ m ∧ k' = m + 1 - j ∧
      xev t e (xeO keep fr) (vs.drop j) acc σ3 = some (ys, σe)) ?_ (m + 1)
      ⟨0, W2, σ2, h₁, _, #[], [], rfl, R1, T01, ⟨_, hns₁⟩, hacc, .nil, by simp, hst₁, ⟨Nat.le_refl _, fun _ _ => rfl, fun _ _ e => e⟩, hown, ⟨hIo, oC, oD⟩, Nat.zero_le _, rfl, hr⟩
    rintro k' s' ⟨j, W3, σ3, h3, tk3, vals, acc, rfl, R3, T3, ⟨m3, hn3⟩, hl3, hv3, hz3, hst3, hmono, hown3, ⟨oI3, oC3, oD3⟩, hj, rfl, e3⟩
    have butOf : ∀ (h4 : Heap), (∀ b o, b ∉ [I] → h3.get? b = some o → h4.get? b = some o) → ∀ b o, b ≠ I → h3.get? b = some o → h4.get? b = some o := fun h4 hk b o hb => hk b o (by simp [hb])
    by_cases hlt : j < m
    · refine Wk.item j _ _ _ hlt hst3 fun v h4 tk4 hPv hst4 hk4 => ?_
      have hk := butOf h4 hk4
      have R4 := R3.but' oI3 hk
      have T4 := T3.but hI0 hk
      have hn4 := hn3.at' fun o e => hk C o hCI e
      have hl4 : h4.PlainList D vals := hl3.at fun o e => hk D o hDI e
      have hjv : j < vs.length := hm ▸ hlt
      have hget : vs[j]? = some vs[j] := by simp [hjv]
      rw [List.drop_eq_getElem_cons hjv] at e3
      have hv : VR W3 σ3.next vs[j] v := (hP j vs[j] v hget hPv).mono hmono.1 hmono.2.1 hmono.2.2
      refine wpAny_assign_Name (wpAny_storeName_local hkx hn4 (fun h5 hn5 hs5 => ?_) (by simp [compEnvC, relabel, ok.kind]))
      have hk5 : ∀ b o, b ≠ C → h4.get? b = some o → h5.get? b = some o := fun b o hb e => (hs5.2 b hb).trans e
      have R5 := R4.but' oC3 hk5
      have T5 := T4.but hC0 hk5
      have hl5 : h5.PlainList D vals := hl4.at fun o e => hk5 D o hDC e
      have hst5 : St (j + 1) h5 := Wk.frame _ _ _ hst4 fun b hb o e => hk5 b o (hfpo b hb).1 e
      obtain ⟨bb, σ6, e6, e3⟩ := xah e3
      have seenI : ∀ {h : Heap} {i : Nat}, St i h → ∃ o, h.get? I = some o := fun hs => hval _ _ hs I hIfp
      refine ht A _ W3 _ σ3 _ _ _ bb σ6 r GC R5 (FC _ _ _ T5 ⟨_, hn5⟩ oC3) (VC _ _ _ _ _ v T5 hn5 (if_pos rfl) hv) e6 fun W6 h6 tk6 R6 t6 => ?_
      have T6 := T5.comp t6
      have hn6 := hn5.at' fun o e => t6.ext C o e (fun q => oC3.own q.all) (fun q => q)
      have hl6 : h6.PlainList D vals := hl5.at fun o e => t6.ext D o e (fun q => oD3.own q.all) (fun q => q)
      have hst6 : St (j + 1) h6 := Wk.frame _ _ _ hst5 fun b hb o e => t6.ext b o e (hown3 b hb) (fun q => q)
      have hv6 := t6.vrs hv3
      have oI6 := oI3.trans t6 (seenI hst5)
      have oC6 := oC3.trans t6 (let ⟨o, _, _, e, _⟩ := hn5; ⟨o, e⟩)
      have oD6 := oD3.trans t6 (let ⟨_, e⟩ := hl5; ⟨_, e⟩)
      have hown6 : ∀ b ∈ fp, ¬ Own W6 σ6.next b := fun b hb q => by
        obtain ⟨o, ho⟩ := hval _ _ hst5 b hb
        exact hown3 b hb (t6.own_back ho q)
      have hmono6 : σ2.next ≤ σ6.next ∧ (∀ i, i < σ2.next → W6.ad i = W2.ad i) ∧ ∀ a v, W2.T a = some v → W6.T a = some v :=
        ⟨Nat.le_trans hmono.1 t6.nx, fun i hi' => (t6.ad i (Nat.lt_of_lt_of_le hi' hmono.1)).trans (hmono.2.1 i hi'), fun a v q => t6.T a v (hmono.2.2 a v q)⟩
      cases bb with
      | false =>
        exact ⟨m + 1 - (j + 1), by omega, j + 1, W6, σ6, h6, tk6, vals, acc, rfl, R6, T6, ⟨_, hn6⟩, hl6, hv6, hz3, hst6, hmono6, hown6, ⟨oI6, oC6, oD6⟩, hlt, rfl, e3⟩
      | true =>
        simp only [if_true] at e3 ⊢
        obtain ⟨y, σ7, e7, e3⟩ := xah e3
        split at e3
        case isFalse => cases e3
        rename_i hza
        refine he A _ W6 _ σ6 _ _ _ y σ7 r GC R6 (FC _ _ _ T6 ⟨_, hn6⟩ oC6) (VC _ _ _ _ _ v T6 hn6 (if_pos rfl) (t6.vr hv)) e7 fun W7 vy h7 tk7 R7 t7 x7 => ?_
        have T7 := T6.comp t7
        have hn7 := hn6.at' fun o e => t7.ext C o e (fun q => oC6.own q.all) (fun q => q)
        have hl7 : h7.PlainList D vals := hl6.at fun o e => t7.ext D o e (fun q => oD6.own q.all) (fun q => q)
        have hst7 : St (j + 1) h7 := Wk.frame _ _ _ hst6 fun b hb o e => t7.ext b o e (hown6 b hb) (fun q => q)
        have hv7 := t7.vrs hv6
        have oI7 := oI6.trans t7 (seenI hst6)
        have oC7 := oC6.trans t7 (let ⟨o, _, _, e, _⟩ := hn6; ⟨o, e⟩)
        have oD7 := oD6.trans t7 (let ⟨_, e⟩ := hl6; ⟨_, e⟩)
        have hown7 : ∀ b ∈ fp, ¬ Own W7 σ7.next b := fun b hb q => by
          obtain ⟨o, ho⟩ := hval _ _ hst6 b hb
          exact hown6 b hb (t7.own_back ho q)
        have hlen : acc.length = vals.size := by have := hv3.1; simpa using this
        refine wpAny_list_append_plain hl7 (fun h8 hl8 hs8 => ?_) (by rw [sizeLine_eq]; omega)
        have hk8 : ∀ b o, b ≠ D → h7.get? b = some o → h8.get? b = some o := fun b o hb e => (hs8.2 b hb).trans e
        refine ⟨m + 1 - (j + 1), by omega, j + 1, W7, σ7, h8, tk7, vals.push vy, acc ++ [y], rfl, R7.but' oD7 hk8, T7.but hD0 hk8, ⟨_, hn7.at' fun o e => hk8 C o (Ne.symm hDC) e⟩, hl8, ?_, by simp; omega,
          Wk.frame _ _ _ hst7 fun b hb o e => hk8 b o (hfpo b hb).2 e, ?_, hown7, ⟨oI7, oC7, oD7⟩, hlt, rfl, e3⟩
        · rw [Array.toList_push]; exact hv7.append (.cons x7 .nil)
        · exact ⟨Nat.le_trans hmono6.1 t7.nx, fun i hi' => (t7.ad i (Nat.lt_of_lt_of_le hi' hmono6.1)).trans (hmono6.2.1 i hi'), fun a v q => t7.T a v (hmono6.2.2 a v q)⟩
    · have hjm : j = m := by omega
      subst hjm
      refine Wk.done _ _ _ hst3 fun h4 tk4 hk4 => ?_
      have hk := butOf h4 hk4
      rw [List.drop_eq_nil_of_le (by omega)] at e3
      cases e3
      exact hRR W3 D C h4 tk4 m3 vals (R3.but' oI3 hk) (T3.but hI0 hk) (hn3.at' fun o e => hk C o hCI e) (hl3.at fun o e => hk D o hDI e) hv3 hz3 oD3 oC3 hD0 hC0 hDC hmg
  exact codeAny_compStart_list (loop _ rfl) (Wk.self 0 _ _ _ hst₁ (loop _ rfl))
theorem xe0 {elt iter : Expr} {x : Str} {px : Pos} {ifs : List Expr} {scope : Scope} {pos : Pos} {a : xa6 → M PV} {t : xa6 → M Bool} {e : xa6 → M PV} (keep : List Bool) (g' : Gn) (ok : xli scope g ns keep x g' = true)
    (ha : SE S d g ns iter a) (ht : xmu S d g' (x :: ns) ifs t) (he : SE S d g' (x :: ns) elt e)
    (hs : ∀ env v, foldedSetIterable iter env v = pure v := by intros; rfl) : SE S d g ns (.ListComp elt [⟨.Name x px, iter, ifs, 0⟩] scope pos) (xdg keep a t e) := by
  intro A env W fr σ s Q E pv σ' r gl R F V e0 P
  obtain ⟨y, σ1, e1, e0⟩ := xah e0
  split at e0
  case h_2 => cases e0
  rename_i vs σ2 hi
  obtain ⟨ys, σ3, e3, e0⟩ := xah e0
  obtain ⟨hz, rfl, rfl⟩ := xem e0
  have ok := xmJ.of ok
  have hfree : ∀ y ∈ scope.names, y.2 = .free → ∃ c, env.cells.lookup y.1 = some c := fun y hy q => (gl.cell _ (ok.free y hy q)).2
  rw [eval_ListComp]
  refine wpAny_comprehension_free (use := none) rfl (hs env) (xhg hfree) ok.kind ok.names ?_
  refine ha A env W fr σ s _ E y σ1 r gl R F V e1 fun W1 vy h1 tk1 R1 t1 x1 => xnx r R1 x1 hi fun W2 I h2 R2 hn t2 IA => ?_
  have hI1 : h1.get? I = none := Heap.get?_none_of_le IA.fresh
  have hI0 : s.heap.get? I = none := by
    cases q : s.heap.get? I with
    | none => rfl
    | some o => obtain ⟨o', e'⟩ := t1.dom I o q; rw [hI1] at e'; cases e'
  have hIo : Out S W2 σ2.next I := by
    have := Out.new R1 hI1
    refine ⟨fun q => ?_, IA.tn, this.base⟩
    rw [hn] at q
    obtain ⟨i, hi', hb'⟩ := q
    rw [t2.ad i hi'] at hb'
    exact this.own ⟨i, hi', hb'⟩
  refine xm7 (RR := fun acc C => compPost (model S.prog S.w) A E none Q acc C) (s := { s with heap := h2, toks := tk1 }) r ok gl F V (t1.comp t2) R2 IA hI0 hIo ht he e3 ?_
  intro W' D C h' tk m' vals R' T' hnC hlD hvD hz oD oC hD0 hC0 hDC hmg
  refine ⟨m', hnC, fun h'' hs'' => ?_⟩
  have hk : ∀ b o, b ≠ C → h'.get? b = some o → h''.get? b = some o := fun b o hb e => (hs''.2 b hb).trans e
  obtain ⟨Ra, Ta, xa⟩ := Rep.adopt (R'.but' oC hk) (T'.but hC0 hk) oD hD0 (hlD.at fun o e => hk D o hDC e) hvD hz hmg
  exact P _ _ h'' tk Ra Ta xa
theorem xl3 {z : Str} {pz ps : Pos} {elt iter : Expr} {x : Str} {px : Pos} {ifs : List Expr} {scope : Scope} {pos : Pos} {a : xa6 → M PV} {t : xa6 → M Bool} {e : xa6 → M PV} (k : Nat) (keep : List Bool) (g' : Gn) (ok : xli scope g ns keep x g' = true)
    (ha : SE S d g ns iter a) (ht : xmu S d g' (x :: ns) ifs t) (he : SE S d g' (x :: ns) elt e) (hz_ : ns[k]? = some z := by rfl)
    (hs : ∀ env v, foldedSetIterable iter env v = pure v := by intros; rfl)
    (hl : (pz.line == (Expr.ListComp elt [⟨.Name x px, iter, ifs, 0⟩] scope pos).pos.line && !(scope.names.any fun (n, k) => n == z && (k == .local || k == .cell))) = true := by rfl) :
    SS S d g ns (.Assign [.Name z pz] (.ListComp elt [⟨.Name x px, iter, ifs, 0⟩] scope pos) ps) (xak k (xdg keep a t e)) := by
  intro A env W fr σ s Q E f fr' σ' r gl T R F V e0 P
  have ok' := xmJ.of ok
  have hbk : env.blockKind = .function := by unfold Env.blockKind; rw [F.kind]; rfl
  have hswv : swapsWith (.ListComp elt [⟨.Name x px, iter, ifs, 0⟩] scope pos) (some (.Name z pz)) ps.line env = pure (env.blockKind == .function && env.kindOf z == some .local && pz.line == (Expr.ListComp elt [⟨.Name x px, iter, ifs, 0⟩] scope pos).pos.line
      && !(scope.names.any fun (n, k) => n == z && (k == .local || k == .cell))) := rfl
  rcases T.kind k z hz_ with hk | ⟨hk, _⟩
  · have hsw : swapsWith (.ListComp elt [⟨.Name x px, iter, ifs, 0⟩] scope pos) (some (.Name z pz)) ps.line env = pure true := by
      rw [hswv, hbk, hk, show ((ScopeKind.function == ScopeKind.function && some NameKind.local == some NameKind.local) = true) from rfl, Bool.and_assoc, hl]; rfl
    obtain ⟨v, σ4, ev, e0⟩ := xah e0
    cases e0
    obtain ⟨y, σ1, e1, ev⟩ := xah ev
    split at ev
    case h_2 => cases ev
    rename_i vs σ2 hi
    obtain ⟨ys, σ3, e3, ev⟩ := xah ev
    obtain ⟨hz', rfl, rfl⟩ := xem ev
    have hfree : ∀ y ∈ scope.names, y.2 = .free → ∃ c, env.cells.lookup y.1 = some c := fun y hy q => (gl.cell _ (ok'.free y hy q)).2
    rw [exec_Assign_Name_used _ _ _ _ hsw]
    refine wpAny_bind (wpAny_standAt (wpAny_bind ?_))
    show wpAny _ A (do let _ ← comprehension (.ListComp elt [⟨.Name x px, iter, ifs, 0⟩] scope pos) scope env _ (newList []) false (eval iter env) (some (assign (.Name z pz) env))) _ _ s
    refine wpAny_bind (wpAny_mono (wpAny_comprehension_free (use := some (assign (.Name z pz) env)) (Q := fun _ s' => Q .next s') rfl (hs env) (xhg hfree) ok'.kind ok'.names ?_) (fun _ s' hq => wpAny_pure (wpAny_pure hq)) fun _ _ e => e)
    refine ha A env W fr σ s _ E y σ1 r gl R F V e1 fun W1 vy h1 tk1 R1 t1 x1 => xnx r R1 x1 hi fun W2 I h2 R2 hn t2 IA => ?_
    have hI1 : h1.get? I = none := Heap.get?_none_of_le IA.fresh
    have hI0 : s.heap.get? I = none := by
      cases q : s.heap.get? I with
      | none => rfl
      | some o => obtain ⟨o', e'⟩ := t1.dom I o q; rw [hI1] at e'; cases e'
    have hIo : Out S W2 σ2.next I := by
      have := Out.new R1 hI1
      refine ⟨fun q => ?_, IA.tn, this.base⟩
      rw [hn] at q
      obtain ⟨i, hi', hb'⟩ := q
      rw [t2.ad i hi'] at hb'
      exact this.own ⟨i, hi', hb'⟩
    refine xm7 (RR := fun acc C => compPost (model S.prog S.w) A E (some (assign (.Name z pz) env)) (fun _ s' => Q .next s') acc C) (s := { s with heap := h2, toks := tk1 }) r ok' gl F V (t1.comp t2) R2 IA hI0 hIo ht he e3 ?_
    intro W' D C h' tk m' vals R' T' hnC hlD hvD hz oD oC hD0 hC0 hDC hmg
    obtain ⟨Ra, Ta, xa⟩ := Rep.adopt R' T' oD hD0 hlD hvD hz hmg
    have hCX : ¬ FX env C := fun q => by obtain ⟨o, e'⟩ := F.fxSome q; rw [hC0] at e'; cases e'
    have hCL : C ≠ env.locals := fun q => hCX (.inl q)
    show wpAny _ A (assign (.Name z pz) env (.ref D)) _ _ _
    have oC' : Out S (W'.add σ3.next (D, D)) (σ3.push (.list ys)).next C := by
      refine ⟨?_, oC.tup, oC.base⟩
      rintro ⟨j, hj, hb⟩
      by_cases q : j = σ3.next
      · subst q
        rw [show (W'.add σ3.next (D, D)).ad σ3.next = (D, D) from if_pos rfl] at hb
        rcases hb with hb | hb <;> exact hDC hb.symm
      · rw [show (W'.add σ3.next (D, D)).ad j = W'.ad j from if_neg q] at hb
        have : j < σ3.next + 1 := hj
        exact oC.own ⟨j, by omega, hb⟩
    refine wpAny_assign_Name (xgu T Ra (F.trans Ta) (V.trans F Ta) hz_ xa fun h2' tk2 Ra2 Ta2 Fa2 Va2 => ?_)
    refine ⟨m', hnC.at' fun o e => Ta2.ext C o e (fun q => oC'.own q.all) hCX, fun h'' hs'' => ?_⟩
    have hk : ∀ b o, b ≠ C → h2'.get? b = some o → h''.get? b = some o := fun b o hb e => (hs''.2 b hb).trans e
    exact P _ .next h'' tk2 (Ra2.but' oC' hk) ((Ta.toX.comp Ta2).but hC0 hk) (Fa2.but hCX hk) (Va2.but hCX hk) trivial
  · have hsw : swapsWith (.ListComp elt [⟨.Name x px, iter, ifs, 0⟩] scope pos) (some (.Name z pz)) ps.line env = pure false := by
      rw [hswv, hbk, hk]; rfl
    obtain ⟨v, σ1, e1, e0⟩ := xah e0
    cases e0
    refine wpAny_Assign_Name (xe0 keep g' ok ha ht he hs A env W fr σ s _ E v _ r gl R F V e1 fun W1 vv h1 tk1 R1 t1 x1 => ?_) hsw
    refine xgu T R1 (F.trans t1) (V.trans F t1) hz_ x1 fun h2 tk2 R2 t2 F2 V2 => ?_
    exact P W1 .next h2 tk2 R2 (t1.toX.comp t2) F2 V2 trivial
end
section
open PySem PySem.W PyProof.Rows PySem.Calls
variable {S : xfo}
variable {d : Nat} {g : Gn} {ns : List Str}
def xf3 : List PV → Option (List Int)
  | [] => some []
  | .int k :: vs => (xf3 vs).map (k :: ·)
  | _ => none
theorem VRs.ints {W : Gh} {n : Nat} : ∀ {vs : List PV} {vals : List Value} {ks : List Int}, VRs W n vs vals → xf3 vs = some ks → IntsAre vals ks := by
  intro vs
  induction vs with
  | nil => intro vals ks h e; cases e; rw [List.length_eq_zero_iff.mp h.1.symm]; exact .nil
  | cons p vs ih =>
    intro vals ks h e
    cases p with
    | int k =>
      obtain ⟨r, hr, rfl⟩ := Option.map_eq_some_iff.mp (show (xf3 vs).map (k :: ·) = some ks from e)
      cases vals with
      | nil => exact absurd h.1 (by simp)
      | cons v vals =>
        have h1 : VR W n (.int k) v := h.2 0 _ _ rfl rfl
        have h2 : VRs W n vs vals := ⟨by have := h.1; simpa using this, fun j a b p q => h.2 (j + 1) a b (by simpa using p) (by simpa using q)⟩
        cases h1 with
        | int k t => exact .cons k t (ih h2 hr)
    | _ => cases e
theorem VRs.ofInts {W : Gh} {n : Nat} {vals : List Value} {ks : List Int} (h : IntsAre vals ks) : VRs W n (ks.map PV.int) vals := by
  induction h with
  | nil => exact .nil
  | cons k t _ ih => exact .cons (.int k t) ih
theorem xdL : ∀ ks : List Int, xf3 (ks.map PV.int) = some ks
  | [] => rfl
  | k :: ks => by show (xf3 (ks.map PV.int)).map (k :: ·) = _; rw [xdL ks]; rfl
def xc7 (x : PV) (σ : St) : Option (List PV) := match x with
  | .ref i => (match σ.objs i with | .list vs => some vs | .flist vs => some vs | _ => none)
  | _ => none
theorem xc4 {W : Gh} {σ : St} {h : Heap} {x : PV} {v : Value} {vs : List PV} (R : Rep S W σ h) (hx : VR W σ.next x v) (e : xc7 x σ = some vs) :
    ∃ a vals, v = .ref a ∧ h.PlainList a vals ∧ VRs W σ.next vs vals.toList ∧ vs.length ≤ 1000 := by
  unfold xc7 at e
  split at e
  case h_2 => cases e
  rename_i i
  cases hx with
  | ref i hi =>
  have O := R.obj i hi
  split at e
  · rename_i ho
    rw [ho] at O
    cases e
    obtain ⟨_, va, hl, hv, hz⟩ := O
    exact ⟨_, va, rfl, hl, hv, hz⟩
  · rename_i ho
    rw [ho] at O
    cases e
    obtain ⟨_, va, hl, hv, hz⟩ := O
    exact ⟨_, va, rfl, hl, hv, hz⟩
  · cases e
def cEq : PV → PV → St → Option Bool := fun x y σ => match x, y with
  | .int a, .int b => some (a == b)
  | .none, .none => some true
  | x, y => (match xc7 x σ, xc7 y σ with
    | some vs, some ws => (match xf3 vs, xf3 ws with
      | some ks, some ls => some (decide (ks = ls))
      | _, _ => if vs.length ≠ ws.length then some false else none)
    | _, _ => none)
def cNe : PV → PV → St → Option Bool := fun x y σ => match x, y with
  | .int a, .int b => some (a != b)
  | x, y => (match xc7 x σ, xc7 y σ with
    | some vs, some ws => (match xf3 vs, xf3 ws with
      | some ks, some ls => some (!decide (ks = ls))
      | _, _ => if vs.length ≠ ws.length then some true else none)
    | _, _ => none)
theorem Heap.PlainList.toA {h : Heap} {a : Addr} {vals : Array Value} (x : h.PlainList a vals) : h.IsList a vals.toList.toArray := by
  simpa using x.isList
theorem xdK : COK S d .Eq cEq := by
  intro A W σ s Q E x y vx vy b r R hx hy e P
  have hu : A.units + 64 < cLine := by have := r.units; have : cLine = 9900 := by rfl
                                       omega
  unfold cEq at e
  split at e
  · cases e; cases hx; cases hy; exact eq_int (P.here R (.bool _) s.toks)
  · cases e; cases hx; cases hy; exact PySem.EqNone.eq_none_none (P.here R (.bool _) s.toks)
  · split at e
    case h_2 => cases e
    rename_i vs ws e1 e2
    obtain ⟨a, va, rfl, hl, hv, _⟩ := xc4 R hx e1
    obtain ⟨b', vb, rfl, hl', hv', _⟩ := xc4 R hy e2
    split at e
    · rename_i ks ls k1 k2
      cases e
      exact eq_intsK (Heap.PlainList.toA hl) (hv.ints k1) (Heap.PlainList.toA hl') (hv'.ints k2) hu (P.here R (.bool _) s.toks)
    · split at e
      case isFalse => cases e
      rename_i hne
      cases e
      have l1 : vs.length = va.size := by have := hv.1; simpa using this
      have l2 : ws.length = vb.size := by have := hv'.1; simpa using this
      exact PySem.SeqAt.eq_list_lengthsAt hl.isList hl'.isList (by simp; omega) (by omega) (P.here R (.bool _) s.toks)
theorem xp9 : COK S d .NotEq cNe := by
  intro A W σ s Q E x y vx vy b r R hx hy e P
  have hu : A.units + 64 < cLine := by have := r.units; have : cLine = 9900 := by rfl
                                       omega
  unfold cNe at e
  split at e
  · cases e; cases hx; cases hy; exact ne_int (P.here R (.bool _) s.toks)
  · split at e
    case h_2 => cases e
    rename_i vs ws e1 e2
    obtain ⟨a, va, rfl, hl, hv, _⟩ := xc4 R hx e1
    obtain ⟨b', vb, rfl, hl', hv', _⟩ := xc4 R hy e2
    split at e
    · rename_i ks ls k1 k2
      cases e
      exact ne_intsK (Heap.PlainList.toA hl) (hv.ints k1) (Heap.PlainList.toA hl') (hv'.ints k2) hu (P.here R (.bool _) s.toks)
    · split at e
      case isFalse => cases e
      rename_i hne
      cases e
      have l1 : vs.length = va.size := by have := hv.1; simpa using this
      have l2 : ws.length = vb.size := by have := hv'.1; simpa using this
      exact PySem.SeqAt.RcNeAt.lists_lengths hl.isList hl'.isList (by simp; omega) (by omega) _ _ _ _ (P.here R (.bool _) s.toks)
def xid (k : Int) (x : PV) (σ : St) : Option (List PV) := if 0 ≤ k then (match x with
  | .scr ks => if ks.length ≤ 1000 then some ((ks.map PV.int).take k.toNat) else none
  | x => (xc7 x σ).map (List.take k.toNat)) else none
theorem xtX {W : Gh} {σ : St} {h : Heap} {x : PV} {v : Value} {k : Int} {ws : List PV} (R : Rep S W σ h) (hx : VR W σ.next x v) (e : xid k x σ = some ws) :
    0 ≤ k ∧ ws.length ≤ 1000 ∧ ∃ a items, v = .ref a ∧ h.IsList a items ∧ items.size ≤ 1000 ∧ VRs W σ.next ws (items.toList.take k.toNat) := by
  unfold xid at e
  split at e
  case isFalse => cases e
  rename_i h0
  have tk : ∀ {vs : List PV} {vals : List Value} (j : Nat), VRs W σ.next vs vals → VRs W σ.next (vs.take j) (vals.take j) := fun {vs vals} j q =>
    ⟨by rw [List.length_take, List.length_take, q.1], fun i pv v h1 h2 => by
      rw [List.getElem?_take] at h1 h2
      split at h1
      · rename_i hlt; rw [if_pos hlt] at h2; exact q.2 i pv v h1 h2
      · cases h1⟩
  split at e
  · rename_i ks
    split at e
    case isFalse => cases e
    rename_i hz
    cases e
    cases hx with
    | scr ks o vals m r h1 h2 h3 h4 =>
    have hl := h4.length
    refine ⟨h0, by rw [List.length_take, List.length_map]; omega, r, vals.toArray, rfl, ⟨o, (R.tup r o h1).1, h2, m, h3⟩, by rw [List.size_toArray]; omega, ?_⟩
    exact tk _ (VRs.ofInts h4)
  · obtain ⟨vs, e1, rfl⟩ := Option.map_eq_some_iff.mp e
    obtain ⟨a, va, rfl, hl, hv, hz⟩ := xc4 R hx e1
    have l1 : vs.length = va.size := by have := hv.1; simpa using this
    exact ⟨h0, by rw [List.length_take]; omega, a, va, rfl, hl.isList, by omega, tk _ hv⟩
def xhQ (k : Int) (a : xa6 → M PV) : xa6 → M PV := fun fr σ => bnd (a fr σ) fun x σ1 => match xid k x σ1 with
  | some ws => xnM ws σ1
  | none => none
theorem xob {v : Expr} {k : Int} {kk : Nat} {pk p pos : Pos} {a : xa6 → M PV} (ha : SE S d g ns v a)
    (hs : ∀ o j, subscripted (.Slice none (some (.Constant (.int k) kk pk)) none p) false o j = operate [j, o] (getItem o j) := by intros; rfl) :
    SE S d g ns (.Subscript v (.Slice none (some (.Constant (.int k) kk pk)) none p) pos) (xhQ k a) := by
  intro A env W fr σ s Q E pv σ' r gl R F V e P
  obtain ⟨x, σ1, e1, e⟩ := xah e
  split at e
  case h_2 => cases e
  rename_i ws hw
  obtain ⟨hz, rfl, rfl⟩ := xem e
  refine Subscript_ (ha A env W fr σ s _ E x _ r gl R F V e1 fun W1 vx h1 tk1 R1 t1 x1 => ?_)
  refine wpAny_Slice (PySem.evalPart_none_step (PySem.evalPart_some_step (wpAny_Constant_int (PySem.evalPart_none_step ?_))))
  obtain ⟨h0, hz', a', items, rfl, hl, hsz, hv⟩ := xtX R1 x1 hw
  refine tail_any (Heap.IsList.typeIs (hl.push _)) list_getitem_lookup (wpAny_getItem_list_slice (hl.push _) (Heap.IsSliceOf.new ..) .none (.int k _) .none (by simp) ?_ (by rw [sizeLine_eq]; omega)) (hs _ _)
  have ek : slicePick items none (some k) none = (items.toList.take k.toNat).toArray := by
    have := slicePick_upto' items k.toNat
    rw [← this, show ((k.toNat : Nat) : Int) = k by omega]
  rw [ek, Heap.size_push]
  obtain ⟨R2, t2, x2⟩ := R1.newList (a := h1.objs.size + 1) (h' := (h1.push _).push _) (fun b o e => Heap.get?_push_of_some _ (Heap.get?_push_of_some _ e)) (Nat.le_succ _) ⟨0, by
    have := Heap.get?_push_size (h1.push { cls := .type "slice", data := .fields #[.none, .int k tk1, .none] }) (o := { cls := .type "list", data := .seq (items.toList.take k.toNat).toArray }) rfl
    rwa [Heap.size_push] at this⟩ hv hz'
  exact P _ _ _ _ R2 (t1.comp t2) x2
def xtE (a : xa6 → M PV) : xa6 → M PV := fun fr σ => bnd (a fr σ) fun x σ1 => match xc7 x σ1 with
  | some ws => xnM ws.reverse σ1
  | none => none
theorem VRs.reverse {W : Gh} {n : Nat} {vs : List PV} {vals : List Value} (h : VRs W n vs vals) : VRs W n vs.reverse vals.reverse := by
  induction vs generalizing vals with
  | nil => rw [List.length_eq_zero_iff.mp h.1.symm]; exact .nil
  | cons p vs ih =>
    cases vals with
    | nil => exact absurd h.1 (by simp)
    | cons v vals =>
      rw [List.reverse_cons, List.reverse_cons]
      exact (ih ⟨by have := h.1; simpa using this, fun j a b p q => h.2 (j + 1) a b (by simpa using p) (by simpa using q)⟩).append (.cons (h.2 0 _ _ rfl rfl) .nil)
theorem xtu {v : Expr} {kk : Nat} {pk pu p pos : Pos} {a : xa6 → M PV} (ha : SE S d g ns v a)
    (hs : ∀ o j, subscripted (.Slice none none (some (.UnaryOp .USub (.Constant (.int 1) kk pk) pu)) p) false o j = operate [o, j] (getItem o j) := by intros; rfl) :
    SE S d g ns (.Subscript v (.Slice none none (some (.UnaryOp .USub (.Constant (.int 1) kk pk) pu)) p) pos) (xtE a) := by
  intro A env W fr σ s Q E pv σ' r gl R F V e P
  obtain ⟨x, σ1, e1, e⟩ := xah e
  split at e
  case h_2 => cases e
  rename_i ws hw
  obtain ⟨hz, rfl, rfl⟩ := xem e
  refine Subscript_ (ha A env W fr σ s _ E x _ r gl R F V e1 fun W1 vx h1 tk1 R1 t1 x1 => ?_)
  refine wpAny_Slice (PySem.evalPart_none_step (PySem.evalPart_none_step (PySem.evalPart_some_step ?_)))
  rw [arm_eval_UnaryOp]
  refine wpAny_bind (wpAny_Constant_int (wpAny_bind (wpAny_standAt (wpAny_holding (PySem.P.neg_int ?_)))))
  obtain ⟨a', va, rfl, hl, hv, _⟩ := xc4 R1 x1 hw
  have l1 : ws.length = va.size := by have := hv.1; simpa using this
  rw [List.length_reverse] at hz
  refine tail_any (Heap.IsList.typeIs (hl.isList.push _)) list_getitem_lookup (wpAny_getItem_list_slice (hl.isList.push _) (Heap.IsSliceOf.new ..) .none .none (.int (-1) _) (by simp) ?_ (by rw [sizeLine_eq]; omega)) (hs _ _)
  rw [krv_pick, Heap.size_push]
  obtain ⟨R2, t2, x2⟩ := R1.newList (a := h1.objs.size + 1) (h' := (h1.push _).push _) (fun b o e => Heap.get?_push_of_some _ (Heap.get?_push_of_some _ e)) (Nat.le_succ _) ⟨0, by
    have := Heap.get?_push_size (h1.push { cls := .type "slice", data := .fields #[.none, .none, .int (-1) (tk1 + 1)] }) (o := { cls := .type "list", data := .seq va.toList.reverse.toArray }) rfl
    rwa [Heap.size_push] at this⟩ hv.reverse (by rw [List.length_reverse]; omega)
  exact P _ _ _ _ R2 (t1.comp t2) x2
end
section
open PySem PySem.W PyProof.Rows PySem.Calls
variable {S : xfo}
variable {d : Nat} {g : Gn} {ns : List Str}
def xj0 (items : Array Value) (x : Str) (j : Nat) : Bool := match items[j]? with | some (.str y _) => y == x | _ => false
theorem xo2 {prog : Program} {w : World} {A : Around} {E : Value → Shared → Prop} {items : Array Value} {x : Str} {u : Tok} {j0 : Nat} {Q : Option PySem.Fin × Unit → Shared → Prop} :
    ∀ (js : List Nat) (s : Shared), (∀ j ∈ js, ∃ y t, items[j]? = some (.str y t)) → js.find? (xj0 items x) = some j0 →
    Q (some (.done (.ret (.int j0 s.toks))), ()) { s with toks := s.toks + 1 } →
    wpAny (model prog w) A (forIn js ((none, ()) : Option PySem.Fin × Unit) fun (i : Nat) __s => match items[i]? with
            | some y => do
              let __do_lift ← eqBool y (Value.str x u)
              if __do_lift = true then do
                  let __do_lift ← retInt (i : Int)
                  pure (ForInStep.done (some __do_lift, ()))
                else pure (ForInStep.yield (none, ()))
            | x => pure (ForInStep.yield (none, ()))) Q E s := by
  intro js
  induction js with
  | nil => intro s _ h _; cases h
  | cons j js ih =>
    intro s hs h q
    rw [List.forIn_cons]
    obtain ⟨y, t, hy⟩ := hs j (List.mem_cons_self ..)
    rw [List.find?_cons] at h
    unfold xj0 at h
    rw [hy] at h ⊢
    dsimp only at h ⊢
    refine wpAny_bind (wpAny_bind (eqBool_str ?_))
    cases e : y == x with
    | true =>
      rw [e] at h
      cases h
      simp only [if_true]
      refine wpAny_bind (wpAny_bind (wpAny_mkInt (wpAny_pure (wpAny_pure (wpAny_pure q)))))
    | false =>
      rw [e] at h
      simp only [Bool.false_eq_true, if_false]
      exact wpAny_pure (ih s (fun j hj => hs j (List.mem_cons_of_mem _ hj)) h q)
theorem xpt {prog : Program} {w : World} {A : Around} {E : Value → Shared → Prop} {s : Shared} {P : PySem.Fin → Shared → Prop} {l : Addr} {items : Array Value} {n : Nat} {x : Str} {u : Tok} {j0 : Nat} (ho : s.heap.get? l = some { cls := .type "tuple", data := .seq items n })
    (hs : ∀ j, j < items.size → ∃ y t, items[j]? = some (.str y t)) (hf : (List.range' 0 items.size 1).find? (xj0 items x) = some j0)
    (h : P (.done (.ret (.int j0 s.toks))) { s with toks := s.toks + 1 }) :
    wpAny (model prog w) A (Builtin.«tuple.index» ⟨[.ref l, .str x u], []⟩) P E s := by
  unfold Builtin.«tuple.index»
  refine wpAny_bind (m := selfAndSome "tuple.index" "index" 1 3 _) (wpAny_pure (a := (Value.ref l, [Value.str x u])) ?_)
  dsimp only
  refine wpAny_bind ?_
  unfold Builtin.Tuple.tupleItemsOf
  refine wpAny_bind (wpAny_seqItems ho rfl (wpAny_pure ?_))
  refine wpAny_bind (wpAny_pure (wpAny_bind (wpAny_pure ?_)))
  rw [Nat.min_self, Std.Legacy.Range.forIn_eq_forIn_range']
  refine wpAny_bind (xo2 (j0 := j0) _ s (fun j hj => hs j ?_) ?_ (wpAny_pure h))
  · simp [Std.Legacy.Range.size] at hj; omega
  · simpa [Std.Legacy.Range.size] using hf
theorem xjF (l : Addr) (items : Array Value) (n : Nat) (x : Str) (u : Tok) (j0 : Nat) (hs : ∀ j, j < items.size → ∃ y t, items[j]? = some (.str y t)) (hf : (List.range' 0 items.size 1).find? (xj0 items x) = some j0) :
    Meets (Builtin.«tuple.index» ⟨[.ref l, .str x u], []⟩) (fun _ R s => s.heap.get? l = some { cls := .type "tuple", data := .seq items n } ∧ R (.ok (.ret (.int j0 s.toks))) { s with toks := s.toks + 1 }) :=
  .of_wp fun prog w A R s h => xpt h.1 hs hf ⟨_, rfl, h.2⟩
def xt1 (items : Array Value) (x : PV) : Option Nat := match x with
  | .str y => (List.range' 0 items.size 1).find? (xj0 items y)
  | _ => none
def xql (items : Array Value) (a : xa6 → M PV) : xa6 → M PV := fun fr σ => bnd (a fr σ) fun x σ1 => match xt1 items x with
  | some j => some (.int j, σ1)
  | none => none
theorem xpZ {nm : Str} {pn apos pos : Pos} {e : Expr} {a : xa6 → M PV} {pl : Env → Sem Bool} {l : Addr} {items : Array Value} {n : Nat} (hx : nm ∈ g.glob) (hg : nsIn S.K mainGlobals nm = some (some (.ref l)))
    (hl : S.K.lookup l = some ⟨.type "tuple", none, .seq items n, #[]⟩) (hs : ∀ j, j < items.size → ∃ y t, items[j]? = some (.str y t)) (hsz : items.size ≤ 100) (ha : SE S d g ns e a) (hb : xdH nm = false := by decide +kernel)
    (he : ∀ env, eval (.Call (.Attribute (.Name nm pn) "index" apos) [e] [] pos) env = (do
      let ov ← eval (.Name nm pn) env
      standAt apos.atName
      let (f, first) ← holding [ov] (getMethod ov "index" (pl env))
      callWith pos f first (backTo pos (starEach [e] env)) []) := by intro env; rfl) (hst : ∀ env, starEach [e] env = [(false, eval e env)] := by intro env; rfl) :
    SE S d g ns (.Call (.Attribute (.Name nm pn) "index" apos) [e] [] pos) (xql items a) := by
  intro A env W fr σ s Q E pv σ' r gl R F V h P
  obtain ⟨x, σ1, e1, h⟩ := xah h
  split at h
  case h_2 => cases h
  rename_i j hj
  cases h
  unfold xt1 at hj
  split at hj
  case h_2 => cases hj
  rename_i y
  have hget : ∀ h' : Heap, (∀ b o, S.h₀.get? b = some o → h'.get? b = some o) → h'.get? l = some { cls := .type "tuple", data := .seq items n } := fun h' k => (S.X.keeps k) _ _ hl
  refine MethodCall_ (xnn hx gl R F hg hb ?_) (he env)
  have hg1 := hget _ R.base
  refine getMethod_builtin (T := "tuple") ⟨_, hg1, rfl⟩ PySem.F.plainAttrs_tuple PySem.F.slot_tuple_index PySem.F.type_tuple_index (fun a q => by cases q; exact ⟨_, hg1, rfl⟩) ?_
  rw [hst env]
  refine callWith_builtin (first := [.ref l]) rfl (Calls.evalArgs_plain (spliced_cons ?_))
  refine ha A env W fr σ s _ E _ _ r gl R F V e1 fun W1 vx h1 tk1 R1 t1 x1 => spliced_nil ?_
  cases x1
  have hg2 := hget _ R1.base
  refine call_meets PySem.F.slot_tuple_index ⟨_, hg2, rfl⟩ PySem.F.entry_tuple_index (PySem.F.args_tuple_index_2 _ _) (xjF l items n y _ j hs hj) ⟨hg2, ?_⟩
  exact P W1 _ h1 _ R1 t1 (.int _ _)
def xj3 (a : xa6 → M PV) : xa6 → M PV := fun fr σ => bnd (a fr σ) fun x σ1 => match x with
  | .bool _ => some (.bool true, σ1)
  | .none => some (.bool false, σ1)
  | _ => none
theorem xhz {e : Expr} {a : xa6 → M PV} {nI nB : Str} {p pb pos : Pos} (hI : nI = "isinstance") (hB : nB = "bool") (h1 : nI ∈ g.glob) (h2 : nB ∈ g.glob) (g1 : nsIn S.K mainGlobals nI = some none) (g2 : nsIn S.K mainGlobals nB = some none)
    (b1 : bootBuiltins nI = some (.builtin "isinstance")) (b2 : bootBuiltins nB = some (.type "bool")) (ha : SE S d g ns e a) (n1 : nI ≠ "__name__") (n2 : nB ≠ "__name__") (c1 : xdH nI = false) (c2 : xdH nB = false)
    (he : ∀ env, starEach [e, .Name nB pb] env = [(false, eval e env), (false, eval (.Name nB pb) env)] := by intro env; rfl) :
    SE S d g ns (.Call (.Name nI p) [e, .Name nB pb] [] pos) (xj3 a) := by
  intro A env W fr σ s Q E pv σ' r gl R F V h P
  obtain ⟨x, σ1, e1, h⟩ := xah h
  refine Call_Name rfl (xnB h1 gl R F g1 b1 n1 c1 ?_)
  rw [he env]
  refine callWith_builtin (first := []) rfl (Calls.evalArgs_plain (spliced_cons ?_))
  refine ha A env W fr σ s _ E _ _ r gl R F V e1 fun W1 vx h1' tk1 R1 t1 x1 => spliced_cons (xnB h2 gl R1 (F.trans t1) g2 b2 n2 c2 (spliced_nil ?_))
  split at h
  · cases h
    cases x1
    exact PySem.IsiPair.bool_bool (P W1 _ h1' tk1 R1 t1 (.bool _))
  · cases h
    cases x1
    exact PySem.IsiPair.NoneType_bool (P W1 _ h1' _ R1 t1 (.bool _))
  · cases h
end
section
open PySem PySem.W PyProof.Rows PySem.Calls
variable {S : xfo}
variable {d : Nat} {g : Gn} {ns : List Str}
def xkh (ks : List Int) : List Int := ks.mergeSort (fun a b => decide (a ≤ b))
theorem xqO {ks ls : List Int} (h1 : ls.Perm ks) (h2 : ls.Pairwise (· ≤ ·)) : ls = xkh ks := by
  have p := List.mergeSort_perm ks (fun a b => decide (a ≤ b))
  have o : (xkh ks).Pairwise (· ≤ ·) := by
    have := List.pairwise_mergeSort (le := fun a b : Int => decide (a ≤ b)) (fun a b c h1 h2 => by simp at *; omega) (fun a b => by simp; omega) ks
    exact this.imp (fun h => by simpa using h)
  exact ksm_same (h1.trans p.symm) h2 o
def xhH (x : PV) (σ : St) : Option (List Int) := match xc7 x σ with
  | some vs => xf3 vs
  | none => (match x with
    | .ref i => (match σ.objs i with | .dict es => some (es.map (·.1)) | .fdict es => some (es.map (·.1)) | _ => none)
    | _ => none)
def xbY : List PV → M PV := fun pvs σ => match pvs with
  | [x] => (match xhH x σ with
    | some ks => if ks.length < 64 then xnM ((xkh ks).map PV.int) σ else none
    | none => none)
  | _ => none
theorem xno {A : Around} {E : Value → Shared → Prop} {s : Shared} {Q : Value → Shared → Prop} {dd : Addr} {kvs : List (Int × Value)} {ep : Nat} (hh : A.handled = none) (lo : (dd == sysModules) = false) (hm : s.heap.DictAt (intKind S.prog S.w) dd kvs ep) (h64 : kvs.length < 64)
    (h : ∀ (h' : Heap) (tk : Nat) (a : Addr) (out : Array Value) (ns' : List Int), (∀ b o, s.heap.get? b = some o → h'.get? b = some o) → (∀ b o, s.heap.get? b = some o → b < a) → h'.PlainList a out → IntsAre out.toList ns' → ns'.Perm (kvs.map (·.1)) → ns'.Pairwise (· ≤ ·) → Q (.ref a) { s with heap := h', toks := tk }) :
    wpAny (model S.prog S.w) A (call (.builtin "sorted") [.ref dd]) Q E s := by
  refine Calls.call_function_entry kind_sorted plain_sorted entry_sorted (args_sorted1 _) ?_
  unfold Builtin.«sorted»
  refine wpAny_bind (m := checkCount "sorted" 1 1 _) (wpAny_pure ?_)
  refine wpAny_bind (kdu_collect (A := A.in1) (kdl_dict lo) hh hm (by rw [sizeLine_eq]; omega) fun h' tk acc hk hacc => ?_)
  have hI : IntsAre acc.toList (kvs.map (·.1)) := by
    have gen : ∀ (l : List Value) (ks : List Int), l.length = ks.length → (∀ (j : Nat) (v : Value), l[j]? = some v → ∃ (k : Int) (t : Tok), ks[j]? = some k ∧ v = Value.int k t) → IntsAre l ks := by
      intro l
      induction l with
      | nil => intro ks h _; rw [List.length_eq_zero_iff.mp h.symm]; exact .nil
      | cons v l ih =>
        intro ks h1 h2
        cases ks with
        | nil => cases h1
        | cons k ks =>
          obtain ⟨k', t, e, rfl⟩ := h2 0 v rfl
          cases e
          exact .cons _ _ (ih ks (by simpa using h1) fun j v e => h2 (j + 1) v (by simpa using e))
    refine gen _ _ (by rw [Array.length_toList, hacc.1, List.length_map]) fun j v e => ?_
    obtain ⟨k, x, e1, e2⟩ := hacc.2 j v (by rw [← Array.getElem?_toList]; exact e)
    obtain ⟨t, rfl⟩ := xow (show Value.isInt k v = true from e2)
    exact ⟨k, t, by rw [List.getElem?_map, e1]; rfl, rfl⟩
  have hsz : acc.toList.length < 64 := by rw [Array.length_toList, hacc.1]; exact h64
  refine wpAny_bind (wpAny_newList ?_ (by rw [sizeLine_eq]; omega))
  have hoL : (h'.push (seqObj "list" acc.toList.toArray 0)).get? h'.objs.size = some (seqObj "list" acc.toList.toArray 0) := Heap.get?_push_size _ rfl
  refine wpAny_bind (wpAny_holding (wpAny_call_entry slot_list_sort ⟨_, hoL, rfl⟩ entry_list_sort (list_sort_tree hoL hI hsz fun out ns' a1 a2 a3 => ⟨_, rfl, ?_⟩) (args_list_sort _)))
  obtain ⟨e, he⟩ := sortedHeap_at (out := out) hoL
  refine wpAny_pure ⟨_, rfl, h _ tk _ out ns' (fun b o hb => ?_) (fun b o hb => Heap.lt_size (hk b o hb)) ⟨e, he⟩ a1 a2 a3⟩
  have hb' := hk b o hb
  have hlt := Heap.lt_size hb'
  rw [sortedHeap_old (Nat.ne_of_lt hlt) (by rw [size_push']; exact Nat.lt_succ_of_lt hlt)]
  exact Heap.get?_push_of_some _ hb'
theorem xrl : BOK S d (.builtin "sorted") xbY := by
  intro A W σ s Q E pvs vals pv σ' r R hv e P
  unfold xbY at e
  split at e
  case h_2 => cases e
  rename_i x
  split at e
  case h_2 => cases e
  rename_i ks hks
  split at e
  case isFalse => cases e
  rename_i h64
  obtain ⟨hz, rfl, rfl⟩ := xem e
  obtain ⟨v, rfl, hx⟩ := hv.one
  have fin : ∀ (h' : Heap) (tk : Nat) (a : Addr) (out : Array Value) (ns' : List Int), (∀ b o, s.heap.get? b = some o → h'.get? b = some o) → (∀ b o, s.heap.get? b = some o → b < a) → h'.PlainList a out → IntsAre out.toList ns' → ns'.Perm ks → ns'.Pairwise (· ≤ ·) → Q (.ref a) { s with heap := h', toks := tk } := by
    intro h' tk a out ns' k1 k2 k3 k4 k5 k6
    have hn : s.heap.get? a = none := by
      cases q : s.heap.get? a with
      | none => rfl
      | some o => exact absurd (k2 a o q) (Nat.lt_irrefl _)
    obtain ⟨R', t'⟩ := R.keep k1
    have hmg : mainGlobals < a := by
      obtain ⟨o, _, _, ho, _⟩ := (S.T.g.keeps R.base)
      exact k2 _ _ ho
    rw [xqO k5 k6] at k4
    obtain ⟨Ra, Ta, xa⟩ := Rep.adopt R' t' (.new R hn) hn k3 (VRs.ofInts k4) hz hmg
    exact P _ _ h' tk Ra Ta xa
  unfold xhH at hks
  split at hks
  · rename_i vs hl
    obtain ⟨a, va, rfl, hpl, hvs, _⟩ := xc4 R hx hl
    have hI := hvs.ints hks
    have hlen := hI.length
    refine sorted_ints (Heap.PlainList.toA hpl) hI (by omega) fun out ns' a1 a2 a3 => ?_
    obtain ⟨e, he⟩ := sortedAll_at s.heap va.toList out
    exact fin _ s.toks _ out ns' (fun _ _ => sortedAll_old) (fun b o hb => Nat.lt_succ_of_lt (Heap.lt_size hb)) ⟨e, he⟩ a1 a2 a3
  · rename_i hl
    split at hks
    case h_2 => cases hks
    rename_i i
    cases hx with
    | ref i hi =>
    have O := R.obj i hi
    have dictCase : ∀ (es : List (Int × PV)) (kvs : List (Int × Value)), s.heap.DictOf (intKind S.prog S.w) (W.ad i).1 kvs → es.map (·.1) = kvs.map (·.1) → ks = es.map (·.1) → wpAny (model S.prog S.w) A (call (.builtin "sorted") [.ref (W.ad i).1]) Q E s := by
      intro es kvs hd hk he
      obtain ⟨ep, hd⟩ := hd.dictAt
      have habove := R.above i hi
      have hsys : ((W.ad i).1 == sysModules) = false := by
        have h1 : sysModules ≤ mainGlobals := by decide
        rw [beq_eq_false_iff_ne]; exact Nat.ne_of_gt (Nat.lt_of_le_of_lt h1 habove)
      have hlen : kvs.length < 64 := by
        have := congrArg List.length hk
        rw [he, List.length_map] at h64
        simp only [List.length_map] at this; omega
      exact xno r.handled hsys hd hlen fun h' tk a out ns' k1 k2 k3 k4 k5 k6 => fin h' tk a out ns' k1 k2 k3 k4 (by rw [he, hk]; exact k5) k6
    split at hks
    · rename_i es ho
      rw [ho] at O
      obtain ⟨_, kvs, hd, hk, _⟩ := O
      cases hks
      exact dictCase es kvs hd hk rfl
    · rename_i es ho
      rw [ho] at O
      obtain ⟨_, kvs, hd, hk, _⟩ := O
      cases hks
      exact dictCase es kvs hd hk rfl
    · cases hks
def xnv : List PV → M PV := fun pvs σ => match pvs with
  | [x] => (match (xc7 x σ).bind xf3 with
    | some ks => (match ks.max? with | some m => some (.int m, σ) | none => none)
    | none => none)
  | _ => none
def xnl : List PV → M PV := fun pvs σ => match pvs with
  | [x] => (match (xc7 x σ).bind xf3 with
    | some ks => (match ks.min? with | some m => some (.int m, σ) | none => none)
    | none => none)
  | _ => none
theorem xkA {xs : Array (Int × Tok)} {ks : List Int} (h : IntsAre (intItems xs).toList ks) : xs.toList.map (·.1) = ks := by
  have : (intItems xs).toList = xs.toList.map fun p => Value.int p.1 p.2 := by simp [intItems]
  rw [this] at h
  generalize xs.toList = l at h ⊢
  induction l generalizing ks with
  | nil => cases h; rfl
  | cons p l ih => cases h with | cons k t h => rw [List.map_cons, ih h]
theorem xtx : BOK S d (.builtin "max") xnv := by
  intro A W σ s Q E pvs vals pv σ' r R hv e P
  unfold xnv at e
  split at e
  case h_2 => cases e
  rename_i x
  split at e
  case h_2 => cases e
  rename_i ks hks
  split at e
  case h_2 => cases e
  rename_i m hm
  cases e
  obtain ⟨v, rfl, hx⟩ := hv.one
  obtain ⟨vs, hl, hi⟩ := Option.bind_eq_some_iff.mp hks
  obtain ⟨a, va, rfl, hpl, hvs, _⟩ := xc4 R hx hl
  have hI := hvs.ints hi
  obtain ⟨xs, rfl⟩ := AllInts.items (vs := va) (by have := hI.allInts; simpa using this)
  have hks' := xkA hI
  have hsz : xs.size = ks.length := by rw [← hks', List.length_map, Array.length_toList]
  have hne : ks ≠ [] := fun q => by rw [q] at hm; cases hm
  have hpos : 0 < xs.size := by rw [hsz]; exact List.length_pos_iff.mpr hne
  refine max_intList r.handled hpl.isList hpos fun v h' tk hv' hk => ?_
  obtain ⟨t, rfl⟩ := intItems_at hv'
  obtain ⟨h1, h2⟩ := argBest_gt (numAt xs) (xs.size - 1)
  obtain ⟨R', t'⟩ := R.keep hk
  have : m = numAt xs (argBest (fun i j => decide (numAt xs i > numAt xs j)) (xs.size - 1)) := by
    obtain ⟨m1, m2⟩ := List.max?_eq_some_iff.mp hm
    have u1 : numAt xs (argBest (fun i j => decide (numAt xs i > numAt xs j)) (xs.size - 1)) ∈ ks := by
      rw [numAt_eq, hks']; exact getD_mem (by omega)
    have u2 : m ≤ numAt xs (argBest (fun i j => decide (numAt xs i > numAt xs j)) (xs.size - 1)) := by
      obtain ⟨j, hj, e⟩ := mem_getD m1
      rw [← hks', ← numAt_eq] at e
      rw [← e]; exact h2 j (by omega)
    exact Int.le_antisymm u2 (m2 _ u1)
  rw [this] at P
  exact P W _ h' tk R' t' (.int _ _)
theorem xtA : BOK S d (.builtin "min") xnl := by
  intro A W σ s Q E pvs vals pv σ' r R hv e P
  unfold xnl at e
  split at e
  case h_2 => cases e
  rename_i x
  split at e
  case h_2 => cases e
  rename_i ks hks
  split at e
  case h_2 => cases e
  rename_i m hm
  cases e
  obtain ⟨v, rfl, hx⟩ := hv.one
  obtain ⟨vs, hl, hi⟩ := Option.bind_eq_some_iff.mp hks
  obtain ⟨a, va, rfl, hpl, hvs, _⟩ := xc4 R hx hl
  have hI := hvs.ints hi
  obtain ⟨xs, rfl⟩ := AllInts.items (vs := va) (by have := hI.allInts; simpa using this)
  have hks' := xkA hI
  have hsz : xs.size = ks.length := by rw [← hks', List.length_map, Array.length_toList]
  have hne : ks ≠ [] := fun q => by rw [q] at hm; cases hm
  have hpos : 0 < xs.size := by rw [hsz]; exact List.length_pos_iff.mpr hne
  refine min_intList r.handled hpl.isList hpos fun v h' tk hv' hk => ?_
  obtain ⟨t, rfl⟩ := intItems_at hv'
  obtain ⟨h1, h2⟩ := argBest_lt (numAt xs) (xs.size - 1)
  obtain ⟨R', t'⟩ := R.keep hk
  have : m = numAt xs (argBest (fun i j => decide (numAt xs i < numAt xs j)) (xs.size - 1)) := by
    obtain ⟨m1, m2⟩ := List.min?_eq_some_iff.mp hm
    have u1 : numAt xs (argBest (fun i j => decide (numAt xs i < numAt xs j)) (xs.size - 1)) ∈ ks := by
      rw [numAt_eq, hks']; exact getD_mem (by omega)
    have u2 : numAt xs (argBest (fun i j => decide (numAt xs i < numAt xs j)) (xs.size - 1)) ≤ m := by
      obtain ⟨j, hj, e⟩ := mem_getD m1
      rw [← hks', ← numAt_eq] at e
      rw [← e]; exact h2 j (by omega)
    exact Int.le_antisymm (m2 _ u1) u2
  rw [this] at P
  exact P W _ h' tk R' t' (.int _ _)
def xjC : PV → PV → M PV := fun x y σ => match x with
  | .ref i => (match σ.objs i, xc7 y σ with
    | .list vs, some ws => if vs.length + ws.length ≤ 1000 then some (.none, σ.set i (.list (vs ++ ws))) else none
    | _, _ => none)
  | _ => none
theorem xqE : xtf S d "list.extend" xjC := by
  intro A W σ s Q E x y vx vy pv σ' r R hx hy h P
  unfold xjC at h
  split at h
  case h_2 => cases h
  split at h
  case h_2 => cases h
  rename_i i _ _ vs ws ho hw
  split at h
  case isFalse => cases h
  rename_i hz
  cases h
  cases hx with
  | ref i hi =>
  have O := R.obj i hi
  rw [ho] at O
  obtain ⟨_, va, ⟨n, hget⟩, hv, _⟩ := O
  obtain ⟨b, vb, rfl, ⟨n2, hget2⟩, hv2, _⟩ := xc4 R hy hw
  have l1 : vs.length = va.size := by have := hv.1; simpa using this
  have l2 : ws.length = vb.size := by have := hv2.1; simpa using this
  have htl : ¬(!va.isEmpty && Builtin.List.listTooLong (va.size + vb.size)) = true := by
    have : Builtin.List.listTooLong (va.size + vb.size) = false := by
      unfold Builtin.List.listTooLong
      rw [sizeLine_eq]
      simp
      omega
    rw [this, Bool.and_false]; simp
  refine call_meets PySem.F.slot_list_extend ⟨_, hget, rfl⟩ PySem.F.entry_list_extend (PySem.F.args_list_extend_2 _ _) (AutoSeq1.list_extend_list_list_0 _ va n b vb n2 htl (by rw [sizeLine_eq]; omega) (by rw [sizeLine_eq]; omega)) ⟨hget, hget2, ?_⟩
  have hl' : (s.heap.update (W.ad i).1 (Obj.mapSeq fun x => x ++ vb)).PlainList (W.ad i).1 (va ++ vb) := ⟨_, Heap.get?_update_self _ hget rfl⟩
  obtain ⟨R', t'⟩ := R.setList hi ho (Heap.SameBut.update ..) hl' (ws := vs ++ ws) (by rw [Array.toList_append]; exact hv.append hv2) (by simp; omega)
  exact P W .none _ s.toks R' t' .none
end
section
open PySem PySem.W PyProof.Rows PySem.Calls
variable {S : xfo}
variable {d : Nat} {g : Gn} {ns : List Str}
def xrA (fr : xa6) (ks : List Nat) (vs : List PV) : xa6 := (ks.zip vs).foldl (fun f p => f.set p.1 (some p.2)) fr
theorem xmL {fr : xa6} {ks : List Nat} {vs : List PV} (hl : ks.length = vs.length) (hn : ks.Nodup) : xrA fr ks.reverse vs.reverse = xrA fr ks vs := by
  unfold xrA
  rw [List.zip_eq_zipWith, List.zip_eq_zipWith, ← List.reverse_zipWith hl]
  refine List.Perm.foldl_eq' (List.reverse_perm _) (fun x hx y hy z => ?_) fr
  by_cases q : x.1 = y.1
  · have hx' : x ∈ ks.zip vs := by rw [List.zip_eq_zipWith]; exact List.mem_reverse.mp hx
    have hy' : y ∈ ks.zip vs := by rw [List.zip_eq_zipWith]; exact List.mem_reverse.mp hy
    obtain ⟨i, hi⟩ := List.mem_iff_getElem?.mp hx'
    obtain ⟨j, hj⟩ := List.mem_iff_getElem?.mp hy'
    rw [List.getElem?_zip_eq_some] at hi hj
    have hik : i < ks.length := (List.getElem?_eq_some_iff.mp hi.1).1
    have : i = j := (List.getElem?_inj hik hn).mp (by rw [hi.1, hj.1, q])
    subst this
    have : x.2 = y.2 := Option.some.inj (hi.2.symm.trans hj.2)
    rw [q, this]
  · exact List.set_comm _ _ q
theorem xmI {A : Around} {env : Env} {E : Value → Shared → Prop} {M : Model} (T : Sto env ns) (tt : Str → Value → Sem Unit) (htt : ∀ x v s Q, wpAny M A (storeName env x v) Q E s → wpAny M A (tt x v) Q E s) :
    ∀ (names : List Str) (ks : List Nat) (pvs : List PV) (vals : List Value) (W : Gh) (fr : xa6) (σ : St) (s : Shared) (Q : Unit → Shared → Prop), names.map some = ks.map (fun k => ns[k]?) → names.length = pvs.length → VRs W σ.next pvs vals →
      Rep S W σ s.heap → Frm S env W σ.next s.heap → xi9 env W σ.next s.heap ns fr →
      (∀ h' tk, Rep S W σ h' → xbu (FX env) W σ.next s.heap W σ.next h' → Frm S env W σ.next h' → xi9 env W σ.next h' ns (xrA fr ks pvs) → Q () { s with heap := h', toks := tk }) →
      wpAny M A (assignInOrder (names.map tt) vals) Q E s := by
  intro names
  induction names with
  | nil =>
    intro ks pvs vals W fr σ s Q hk hl hv R F V P
    have hks : ks = [] := by cases ks with | nil => rfl | cons _ _ => simp at hk
    have hpv : pvs = [] := by cases pvs with | nil => rfl | cons _ _ => simp at hl
    subst hks hpv
    have : vals = [] := List.length_eq_zero_iff.mp hv.1.symm
    subst this
    exact assignInOrder_nil (P s.heap s.toks R .refl F V)
  | cons x names ih =>
    intro ks pvs vals W fr σ s Q hk hl hv R F V P
    cases ks with
    | nil => simp at hk
    | cons k ks =>
    cases pvs with
    | nil => simp at hl
    | cons pv pvs =>
    cases vals with
    | nil => exact absurd hv.1 (by simp)
    | cons v vals =>
    simp only [List.map_cons, List.cons.injEq] at hk
    have hv0 : VR W σ.next pv v := hv.2 0 _ _ rfl rfl
    have hv1 : VRs W σ.next pvs vals := ⟨by have := hv.1; simpa using this, fun j a b p q => hv.2 (j + 1) a b (by simpa using p) (by simpa using q)⟩
    refine assignInOrder_cons (htt _ _ _ _ (xgu T R F V hk.1.symm hv0 fun h1 tk1 R1 t1 F1 V1 => ?_))
    exact ih ks pvs vals W _ σ _ Q hk.2 (by simpa using hl) hv1 R1 F1 V1 fun h2 tk2 R2 t2 F2 V2 => P h2 tk2 R2 (t1.comp t2) F2 V2
theorem xn1 {A : Around} {I : Addr} {fp : List Addr} {N : Nat} {P : Nat → Value → Prop} {St : Nat → Heap → Prop} {E : Value → Shared → Prop} (Wk : Walks S.prog S.w A I fp [I] N P St) : ∀ (n i : Nat) (s : Shared) (Q : List Value → Shared → Prop), St i s.heap → i + n ≤ N →
    (∀ vs h' tk, vs.length = n → (∀ j v, vs[j]? = some v → P (i + j) v) → St (i + n) h' → (∀ b o, b ∉ [I] → s.heap.get? b = some o → h'.get? b = some o) → Q vs { s with heap := h', toks := tk }) → wpAny (model S.prog S.w) A (draw (.ref I) n) Q E s
  | 0, i, s, Q, hst, _, hQ => by
    show wpAny _ _ (pure []) Q E s
    exact wpAny_pure (hQ [] s.heap s.toks rfl (fun j v e => by simp at e) hst fun b o _ e => e)
  | n + 1, i, s, Q, hst, hle, hQ => by
    show wpAny _ _ (pyNext (.ref I) >>= _) Q E s
    refine wpAny_bind (Wk.item i _ _ _ (by omega) hst fun v h1 tk1 hP hst1 hk1 => ?_)
    refine wpAny_bind (wpAny_holding (xn1 Wk n (i + 1) _ _ hst1 (by omega) fun vs h2 tk2 hl hPs hst2 hk2 => wpAny_pure ?_))
    refine hQ (v :: vs) h2 tk2 (by simp [hl]) (fun j w e => ?_) (by rw [show i + (n + 1) = i + 1 + n by omega]; exact hst2) fun b o hb e => hk2 b o hb (hk1 b o hb e)
    cases j with
    | zero => simp at e; rw [← e]; exact hP
    | succ j => have := hPs j w (by simpa using e); rwa [show i + (j + 1) = i + 1 + j by omega]
theorem xiy {A : Around} {l : Addr} {va : Array Value} {E : Value → Shared → Prop} {s : Shared} {Q : List Value → Shared → Prop} (hh : A.handled = none) (hl : s.heap.PlainList l va)
    (hQ : ∀ h' tk, (∀ b o, s.heap.get? b = some o → h'.get? b = some o) → Q va.toList { s with heap := h', toks := tk }) : wpAny (model S.prog S.w) A (unpackItems (.ref l) va.size none) Q E s := by
  have hlt : l ≠ s.heap.objs.size := by obtain ⟨n, ho⟩ := hl; exact Nat.ne_of_lt (Heap.lt_size ho)
  unfold unpackItems
  refine wpAny_bind ?_
  · unfold notIterableAtAll
    refine wpAny_bind (wpAny_specialOf hl.isList.typeIs PySem.F.slot_list_iter.lookup ?_)
    refine wpAny_pure ?_
    simp only [Bool.false_eq_true, if_false]
    refine wpAny_bind (wpAny_holding (wpAny_pyIter_list hl.isList ?_))
    have Wk := Walks.list (prog := S.prog) (w := S.w) hh s.heap.objs.size l hlt va
    refine wpAny_bind (wpAny_holding (xn1 Wk va.size 0 _ _ ⟨⟨_, Heap.get?_push_size _ rfl, rfl, rfl⟩, hl.isList.push _⟩ (by omega) fun vs h1 tk1 hlen hP hst1 hk1 => ?_))
    have hvs : vs = va.toList := by
      apply List.ext_getElem?
      intro j
      cases e : vs[j]? with
      | none =>
        rw [List.getElem?_eq_none_iff] at e
        rw [eq_comm, List.getElem?_eq_none_iff, Array.length_toList]; omega
      | some v =>
        have := hP j v e
        rw [Nat.zero_add] at this
        rw [Array.getElem?_toList]; exact this.symm
    subst hvs
    rw [if_neg (by simp)]
    refine wpAny_bind (wpAny_holding (Wk.done _ _ _ (by rw [Nat.zero_add] at hst1; exact hst1) fun h2 tk2 hk2 => ?_))
    simp only [Option.isSome_none, Bool.false_eq_true, if_false]
    have ne : ∀ b o, s.heap.get? b = some o → b ∉ [s.heap.objs.size] := fun b o e q => by
      rw [List.mem_singleton.mp q] at e; exact Nat.lt_irrefl _ (Heap.lt_size e)
    exact wpAny_pure (hQ h2 tk2 fun b o e => hk2 b o (ne b o e) (hk1 b o (ne b o e) (Heap.get?_push_of_some _ e)))
def xiK (x : PV) (σ : St) : Option (List PV) := match x with
  | .tup vs => some vs
  | x => xc7 x σ
theorem xgM {A : Around} {W : Gh} {σ : St} {s : Shared} {Q : List Value → Shared → Prop} {E : Value → Shared → Prop} {x : PV} {v : Value} {vs : List PV} {n : Nat} (r : xhK d A) (R : Rep S W σ s.heap) (hx : VR W σ.next x v) (hi : xiK x σ = some vs) (hn : vs.length = n)
    (P : ∀ vals h' tk, Rep S W σ h' → xbu noX W σ.next s.heap W σ.next h' → VRs W σ.next vs vals → Q vals { s with heap := h', toks := tk }) : wpAny (model S.prog S.w) A (unpackItems v n none) Q E s := by
  unfold xiK at hi
  split at hi
  · cases hi
    cases hx with
    | tup ws vals a h1 h2 h3 =>
    have ht : IsTup s.heap a vals.toArray := ⟨_, (R.tup a _ h1).1, rfl, 0, rfl⟩
    have hsz : n = vals.toArray.size := by rw [List.size_toArray]; omega
    rw [hsz]
    refine unpackItems_tuple r.handled ht fun h' he => ?_
    obtain ⟨R', t'⟩ := R.keep (h' := h') fun b o e => he b o (Nat.ne_of_lt (Heap.lt_size e)) e
    exact P vals h' s.toks R' t' ⟨h2, h3⟩
  · obtain ⟨a, va, rfl, hl, hv, _⟩ := xc4 R hx hi
    have h1 : vs.length = va.size := by have := hv.1; simpa using this
    have hsz : n = va.size := by omega
    rw [hsz]
    refine xiy r.handled hl fun h' tk hk => ?_
    obtain ⟨R', t'⟩ := R.keep hk
    exact P _ h' tk R' t' hv
def xl9 : Expr → Bool
  | .Tuple vs _ _ => !vs.all (constantsAlone 8)
  | _ => true
theorem xlY {env : Env} {line : Nat} : ∀ (tn : List (Str × Pos)), ((tn.map (fun q => Expr.Name q.1 q.2)).filterMap fun | .Name id pos => if env.kindOf id == some .local && pos.line == line then some id else none | _ => none).length = tn.length →
    ((tn.map (fun q => Expr.Name q.1 q.2)).filterMap fun | .Name id pos => if env.kindOf id == some .local && pos.line == line then some id else none | _ => none) = tn.map (·.1) := by
  intro tn
  induction tn with
  | nil => intro _; rfl
  | cons q tn ih =>
    intro h
    rw [List.map_cons, List.filterMap_cons] at h ⊢
    dsimp only at h ⊢
    by_cases c : (env.kindOf q.1 == some .local && q.2.line == line) = true
    · rw [if_pos c] at h ⊢
      dsimp only at h ⊢
      rw [ih (by simpa using h)]; rfl
    · rw [if_neg c] at h
      dsimp only at h
      have := List.length_filterMap_le (fun e : Expr => match e with | .Name id pos => if env.kindOf id == some .local && pos.line == line then some id else none | _ => none) (tn.map (fun q => Expr.Name q.1 q.2))
      rw [List.length_map] at this
      rw [List.length_cons] at h
      omega
theorem xkQ {tn : List (Str × Pos)} {k : Nat} {p : Pos} {value : Expr} {env : Env} (hc : xl9 value = true) :
    swappedStores [.Tuple (tn.map (fun q => Expr.Name q.1 q.2)) k p] value env = pure none ∨ swappedStores [.Tuple (tn.map (fun q => Expr.Name q.1 q.2)) k p] value env = pure (some (tn.map (·.1))) := by
  cases value
  case Tuple vs kk pp =>
    have hc' : vs.all (constantsAlone 8) = false := by simpa [xl9] using hc
    unfold swappedStores
    dsimp only
    split
    · exact .inl rfl
    · split
      · exact .inl rfl
      · split
        · exact .inl rfl
        · rename_i hlen
          split
          · exact .inl rfl
          · rw [if_neg (by rw [hc']; exact Bool.false_ne_true)]
            refine .inr (congrArg (fun l => (pure (some l) : Sem (Option (List Str)))) (xlY tn ?_))
            · simp only [Bool.or_eq_true, bne_iff_ne, ne_eq, not_or, Decidable.not_not] at hlen
              exact hlen.1.trans (List.length_map ..)
  all_goals exact .inl rfl
def xoj : List Expr → List (Str × Pos)
  | .Name x p :: es => (x, p) :: xoj es
  | _ => []
def xcy (ks : List Nat) (a : xa6 → M PV) : xa6 → M (FR × xa6) := fun fr σ => bnd (a fr σ) fun x σ1 => match xiK x σ1 with
  | some vs => if vs.length = ks.length then some ((.next, xrA fr ks vs), σ1) else none
  | none => none
theorem xdc {env : Env} : ∀ tn : List (Str × Pos), assignEach (tn.map (fun q => Expr.Name q.1 q.2)) env = tn.map (fun q => (false, assign (.Name q.1 q.2) env))
  | [] => rfl
  | q :: tn => by rw [List.map_cons, List.map_cons, ← xdc tn]; rfl
theorem xdr {es : List Expr} {k : Nat} {p' p : Pos} {e : Expr} {a : xa6 → M PV} (ks : List Nat) (ha : SE S d g ns e a) (hes : es = (xoj es).map (fun q => Expr.Name q.1 q.2) := by rfl) (hk : (xoj es).map (fun q => some q.1) = ks.map (fun k => ns[k]?) := by rfl) (hnd : ks.Nodup := by decide)
    (hsw : ∀ env, swapsWith e (some (.Tuple es k p')) p.line env = pure false := by intro env; rfl) (hc : xl9 e = true := by rfl) :
    SS S d g ns (.Assign [.Tuple es k p'] e p) (xcy ks a) := by
  intro A env W fr σ s Q E f fr' σ' r gl T R F V h P
  obtain ⟨x, σ1, e1, h⟩ := xah h
  split at h
  case h_2 => cases h
  rename_i vs hu
  split at h
  case isFalse => cases h
  rename_i hlen
  cases h
  generalize xoj es = tn at hes hk
  subst hes
  have hkl : tn.length = ks.length := by have := congrArg List.length hk; simpa using this
  have hk' : (tn.map (·.1)).map some = ks.map (fun k => ns[k]?) := by rw [← hk, List.map_map]; rfl
  have hss : swapsWithSole [.Tuple (tn.map (fun q => Expr.Name q.1 q.2)) k p'] e p.line env = pure false := hsw env
  rcases xkQ (tn := tn) (k := k) (p := p') (env := env) hc with hw | hw
  · refine Assign_Tuple (ha A env W fr σ s _ E x _ r gl R F V e1 fun W1 v h1 tk1 R1 t1 x1 => ?_) hss hw
    rw [PyProof.Rows.assign_Tuple]
    refine wpAny_bind (wpAny_standAt ?_)
    unfold unpack
    have hstar : (assignEach (tn.map (fun q => Expr.Name q.1 q.2)) env).findIdx? (·.1) = none := by
      rw [xdc, List.findIdx?_eq_none_iff]
      intro y hy
      obtain ⟨q, _, rfl⟩ := List.mem_map.mp hy
      rfl
    rw [hstar]
    refine wpAny_bind (wpAny_holding (xgM r R1 x1 hu (by rw [xdc, List.length_map]; omega) fun vals h2 tk2 R2 t2 hv => ?_))
    have t12 := t1.comp t2
    have hm : (assignEach (tn.map (fun q => Expr.Name q.1 q.2)) env).map (·.2) = (tn.map (fun q => assign (.Name q.1 q.2) env)) := by rw [xdc, List.map_map]; rfl
    rw [hm]
    have gen : ∀ (tn' : List (Str × Pos)) (ks' : List Nat) (pvs : List PV) (vals : List Value) (fr : xa6) (s : Shared) (Q : Unit → Shared → Prop), (tn'.map (·.1)).map some = ks'.map (fun k => ns[k]?) → tn'.length = pvs.length → VRs W1 σ'.next pvs vals →
        Rep S W1 σ' s.heap → Frm S env W1 σ'.next s.heap → xi9 env W1 σ'.next s.heap ns fr →
        (∀ h' tk, Rep S W1 σ' h' → xbu (FX env) W1 σ'.next s.heap W1 σ'.next h' → Frm S env W1 σ'.next h' → xi9 env W1 σ'.next h' ns (xrA fr ks' pvs) → Q () { s with heap := h', toks := tk }) →
        wpAny (model S.prog S.w) A (assignInOrder (tn'.map (fun q => assign (.Name q.1 q.2) env)) vals) Q E s := by
      intro tn'
      induction tn' with
      | nil =>
        intro ks' pvs vals fr s Q a1 a2 a3 R F V P
        exact xmI (S := S) T (fun x => storeName env x) (fun x v s Q h => h) [] ks' pvs vals W1 fr σ' s Q a1 a2 a3 R F V P
      | cons q tn' ih =>
        intro ks' pvs vals fr s Q a1 a2 a3 R F V P
        cases ks' with
        | nil => simp at a1
        | cons k' ks' =>
        cases pvs with
        | nil => simp at a2
        | cons pv pvs =>
        cases vals with
        | nil => exact absurd a3.1 (by simp)
        | cons v vals =>
        simp only [List.map_cons, List.cons.injEq] at a1
        have hv0 : VR W1 σ'.next pv v := a3.2 0 _ _ rfl rfl
        have hv1 : VRs W1 σ'.next pvs vals := ⟨by have := a3.1; simpa using this, fun j a b p q => a3.2 (j + 1) a b (by simpa using p) (by simpa using q)⟩
        refine assignInOrder_cons (PyProof.Rows.assign_Name (xgu T R F V a1.1.symm hv0 fun h1 tk1 R1 t1 F1 V1 => ?_))
        exact ih ks' pvs vals _ _ Q a1.2 (by simpa using a2) hv1 R1 F1 V1 fun h2 tk2 R2 t2 F2 V2 => P h2 tk2 R2 (t1.comp t2) F2 V2
    refine gen tn ks vs vals fr _ _ hk' (by omega) hv R2 (F.trans t12) (V.trans F t12) fun h3 tk3 R3 t3 F3 V3 => ?_
    exact P W1 .next h3 tk3 R3 (t12.toX.comp t3) F3 V3 trivial
  · refine Assign_Tuple_swapped (ha A env W fr σ s _ E x _ r gl R F V e1 fun W1 v h1 tk1 R1 t1 x1 => ?_) hss hw
    refine xgM r R1 x1 hu (by rw [List.length_map]; omega) fun vals h2 tk2 R2 t2 hv => ?_
    have t12 := t1.comp t2
    refine xmI (S := S) T (fun x => bindName env x) (fun x v s Q h => wpAny_bindName h) (tn.map (·.1)).reverse ks.reverse vs.reverse vals.reverse W1 fr σ' { s with heap := h2, toks := tk2 } _ ?_ (by simp; omega) hv.reverse R2 (F.trans t12) (V.trans F t12) fun h3 tk3 R3 t3 F3 V3 => ?_
    · rw [List.map_reverse, List.map_reverse, hk']
    · rw [xmL (by omega) hnd] at V3
      exact P W1 .next h3 tk3 R3 (t12.toX.comp t3) F3 V3 trivial
end
section
open PySem PySem.W PyProof.Rows PySem.Calls
variable {S : xfo}
variable {d : Nat} {g : Gn} {ns : List Str}
def xrN : xa6 → M Bool := fun _ _ => none
theorem xsx {e : Expr} : ST S d g ns e xrN := by
  intro A env W fr σ s Q E pv σ' r gl R F V e P; cases e
theorem xnq {c : xa6 → M Bool} {b : xa6 → M (FR × xa6)} : ∀ {n : Nat} {fr : xa6} {σ : St} {r}, xeq c b n fr σ = some r → xeq c b (n + 1) fr σ = some r := by
  intro n
  induction n with
  | zero => intro fr σ r h; cases h
  | succ n ih =>
    intro fr σ r h
    obtain ⟨t, σ1, e1, h⟩ := xah (show bnd (c fr σ) _ = some r from h)
    show bnd (c fr σ) _ = some r
    rw [e1]
    show (if t = true then _ else _) = some r
    cases t with
    | false => exact h
    | true =>
      obtain ⟨x, σ2, e2, h⟩ := xah (show bnd (b fr σ1) _ = some r from h)
      show bnd (b fr σ1) _ = some r
      rw [e2]
      show (match x.1 with | .next => xeq c b (n + 1) x.2 σ2 | .ret v => some ((.ret v, x.2), σ2)) = some r
      obtain ⟨f, fr2⟩ := x
      cases f with
      | next => exact ih h
      | ret v => exact h
theorem xlV {c : xa6 → M Bool} {b : xa6 → M (FR × xa6)} {n m : Nat} (h : n ≤ m) {fr : xa6} {σ : St} {r} (e : xeq c b n fr σ = some r) : xeq c b m fr σ = some r := by
  induction m with
  | zero => rw [Nat.le_zero.mp h] at e; exact e
  | succ m ih =>
    rcases Nat.lt_or_ge m n with q | q
    · rw [show m + 1 = n by omega]; exact e
    · exact xnq (ih q)
theorem xoY {c : xa6 → M Bool} {b : xa6 → M (FR × xa6)} {n m : Nat} {fr : xa6} {σ : St} {r r'} (e : xeq c b n fr σ = some r) (e' : xeq c b m fr σ = some r') : r = r' := by
  have h1 := xlV (Nat.le_max_left n m) e
  have h2 := xlV (Nat.le_max_right n m) e'
  rw [h1] at h2; exact Option.some.inj h2
open Classical in
noncomputable def xcB (c : xa6 → M Bool) (b : xa6 → M (FR × xa6)) : xa6 → M (FR × xa6) := fun fr σ =>
  if h : ∃ r, ∃ n, xeq c b n fr σ = some r then some (Classical.choose h) else none
theorem xfk {c : xa6 → M Bool} {b : xa6 → M (FR × xa6)} {fr : xa6} {σ : St} {r} (e : xcB c b fr σ = some r) : ∃ n, xeq c b n fr σ = some r := by
  unfold xcB at e
  split at e
  · rename_i h
    have := Classical.choose_spec h
    rw [Option.some.inj e] at this
    exact this
  · cases e
theorem xiO {c : xa6 → M Bool} {b : xa6 → M (FR × xa6)} {n : Nat} {fr : xa6} {σ : St} {r} (e : xeq c b n fr σ = some r) : xcB c b fr σ = some r := by
  unfold xcB
  have h : ∃ r, ∃ n, xeq c b n fr σ = some r := ⟨r, n, e⟩
  rw [dif_pos h]
  obtain ⟨m, hm⟩ := Classical.choose_spec h
  rw [xoY e hm]
theorem xfi {c : xa6 → M Bool} {b : xa6 → M (FR × xa6)} {fr : xa6} {σ σ1 : St} (h : c fr σ = some (false, σ1)) : xcB c b fr σ = some ((.next, fr), σ1) :=
  xiO (n := 1) (by show bnd (c fr σ) _ = _; rw [h]; rfl)
theorem xd3 {c : xa6 → M Bool} {b : xa6 → M (FR × xa6)} {fr fr2 : xa6} {σ σ1 σ2 : St} {r} (h : c fr σ = some (true, σ1)) (h2 : b fr σ1 = some ((.next, fr2), σ2)) (h3 : xcB c b fr2 σ2 = some r) : xcB c b fr σ = some r := by
  obtain ⟨n, hn⟩ := xfk h3
  exact xiO (n := n + 1) (by show bnd (c fr σ) _ = _; rw [h]; show bnd (b fr σ1) _ = _; rw [h2]; exact hn)
theorem xg4 {c : xa6 → M Bool} {b : xa6 → M (FR × xa6)} {fr fr2 : xa6} {σ σ1 σ2 : St} {v} (h : c fr σ = some (true, σ1)) (h2 : b fr σ1 = some ((.ret v, fr2), σ2)) : xcB c b fr σ = some ((.ret v, fr2), σ2) :=
  xiO (n := 1) (by show bnd (c fr σ) _ = _; rw [h]; show bnd (b fr σ1) _ = _; rw [h2]; rfl)
theorem xfd {c p bs ec eb} (hc : ST S d g ns c ec) (hb : SB S d g ns bs eb) : SS S d g ns (.While c bs [] p) (xcB ec eb) := by
  intro A env W fr σ s Q E f fr' σ' r gl T R F V e P
  obtain ⟨n, hn⟩ := xfk e
  exact xr0 n hc hb A env W fr σ s Q E f fr' σ' r gl T R F V hn P
theorem xar {l : List Str} {x : Str} (k : Nat) (h : l[k]? = some x := by rfl) : x ∈ l := List.mem_of_getElem? h
def xbd (K : Frag) (a : Addr) : List Stmt := match K.lookup a with | some ⟨_, _, .func fd, _⟩ => (match fd.body with | .stmts b => b | _ => []) | _ => []
def xaJ (K : Frag) (a : Addr) : Scope := match K.lookup a with | some ⟨_, _, .func fd, _⟩ => fd.scope | _ => default
def xpA : Nat → List Str
  | 0 => ["number", "begin", "end", "front_advance", "rear_advance", "limit", "offset", "is_red", "left", "right", "parent"]
  | 1 => ["root", "count"]
  | 2 => ["number", "node", "home", "plist"]
  | 3 => ["tree", "overlays", "rules"]
  | 4 => ["lisp", "nil", "true", "category", "front_sticky", "rear_nonsticky", "evaporate", "priority", "defaults"]
  | 5 => ["first", "nil", "true", "plists"]
  | _ => []
theorem xq4 : ∀ (c k k' : Nat) (x : Str), (xpA c)[k]? = some x → (xpA c)[k']? = some x → k = k' := by
  have key : ∀ (l : List Str), l.Nodup → ∀ (k k' : Nat) (x : Str), l[k]? = some x → l[k']? = some x → k = k' := fun l hl k k' x h1 h2 =>
    (List.getElem?_inj (List.getElem?_eq_some_iff.mp h1).1 hl).mp (h1.trans h2.symm)
  intro c
  match c with
  | 0 => exact key _ (by decide +kernel)
  | 1 => exact key _ (by decide +kernel)
  | 2 => exact key _ (by decide +kernel)
  | 3 => exact key _ (by decide +kernel)
  | 4 => exact key _ (by decide +kernel)
  | 5 => exact key _ (by decide +kernel)
  | _ + 6 => intro k k' x h; simp [xpA] at h
end
section
open PySem PySem.W PyProof.Rows PySem.Calls
def xal : List (Nat × Nat) := [(0, 1)]
def xcR : List (Nat × Nat) := [(4, 3)]
def xcu : List (Nat × Nat) := [(1, 1)]
def xha : List (Nat × Nat) := [(4, 8)]
def xaI : List (Nat × Nat) := [(0, 2)]
def xbH : List (Nat × Nat) := [(4, 6)]
def xhD : List (Nat × Nat) := [(5, 0)]
def xdb : List (Nat × Nat) := [(0, 3)]
def xep : List (Nat × Nat) := [(4, 4)]
def xbn : List (Nat × Nat) := [(2, 2)]
def xan : List (Nat × Nat) := [(0, 7)]
def xat : List (Nat × Nat) := [(0, 8)]
def xaA : List (Nat × Nat) := [(0, 5)]
def xnp : List (Nat × Nat) := [(4, 0)]
def xf4 : List (Nat × Nat) := [(4, 1), (5, 1)]
def xb9 : List (Nat × Nat) := [(2, 1)]
def xb6 : List (Nat × Nat) := [(0, 0), (2, 0)]
def xay : List (Nat × Nat) := [(0, 6)]
def xbf : List (Nat × Nat) := [(3, 1)]
def xau : List (Nat × Nat) := [(0, 10)]
def xbK : List (Nat × Nat) := [(2, 3)]
def xj1 : List (Nat × Nat) := [(5, 3)]
def xhb : List (Nat × Nat) := [(4, 7)]
def xdq : List (Nat × Nat) := [(0, 4)]
def xdS : List (Nat × Nat) := [(4, 5)]
def xaf : List (Nat × Nat) := [(0, 9)]
def xbh : List (Nat × Nat) := [(1, 0)]
def xc9 : List (Nat × Nat) := [(3, 2)]
def xbv : List (Nat × Nat) := [(3, 0)]
def xh0 : List (Nat × Nat) := [(4, 2), (5, 2)]
def xof : Array Value := #[.str "category" 822, .str "front-sticky" 823, .str "rear-nonsticky" 824, .str "evaporate" 825, .str "priority" 826]
theorem xpq : ∀ j, j < xof.size → ∃ y t, xof[j]? = some (.str y t) := by
  intro j h
  have h' : j < 5 := h
  match j, h' with
  | 0, _ => exact ⟨_, _, rfl⟩
  | 1, _ => exact ⟨_, _, rfl⟩
  | 2, _ => exact ⟨_, _, rfl⟩
  | 3, _ => exact ⟨_, _, rfl⟩
  | 4, _ => exact ⟨_, _, rfl⟩
noncomputable def xcO : xa6 → M (FR × xa6) :=
    (xa5 (xa7 xb6 (xa3 0) (xa3 1))
    (xa5 (xa7 xal (xa3 0) (xa3 2))
    (xa5 (xa7 xaI (xa3 0) (xa3 3))
    (xa5 (xa7 xdb (xa3 0) (xa3 4))
    (xa5 (xa7 xdq (xa3 0) (xa3 5))
    (xa5 (xa7 xaA (xa3 0) (xa3 3))
    (xa5 (xa7 xay (xa3 0) (xaK 0))
    (xa5 (xa7 xan (xa3 0) (xch false))
    (xa5 (xa7 xat (xa3 0) xaW)
    (xa5 (xa7 xaf (xa3 0) xaW)
    (xa5 (xa7 xau (xa3 0) xaW)
    xaC)))))))))))
noncomputable def xcM : List PV → M PV := xaT 6 0 xcO
noncomputable def xdz : xa6 → M (FR × xa6) :=
    (xa5 (xa7 xbh (xa3 0) xaW)
    (xa5 (xa7 xcu (xa3 0) (xaK 0))
    xaC))
noncomputable def xdA : List PV → M PV := xaT 1 0 xdz
noncomputable def xfD : xa6 → M (FR × xa6) :=
    (xa5 (sIf (xaP (xa9 xay (xa3 0)) (xai cEq (xaK 0))) (xa5 xfR
    xaC) xaC)
    (xa5 (xa7 xal (xa3 0) (xbG xda (xa9 xal (xa3 0)) (xa9 xay (xa3 0))))
    (xa5 (xa7 xaI (xa3 0) (xbG xda (xa9 xaI (xa3 0)) (xa9 xay (xa3 0))))
    (xa5 (xa7 xaA (xa3 0) (xbG xda (xa9 xaA (xa3 0)) (xa9 xay (xa3 0))))
    (xa5 (xeE 1 (xeJ (xa1 (xa9 xat (xa3 0)) (xa1 (xa9 xaf (xa3 0)) xa8))) (xa5 (sIf (xaP (xa3 1) (xai xbc xaW)) (xa5 (xa7 xay (xa3 1) (xbG xda (xa9 xay (xa3 1)) (xa9 xay (xa3 0))))
    xaC) xaC)
    xaC))
    (xa5 (xa7 xay (xa3 0) (xaK 0))
    xaC))))))
noncomputable def xba : List PV → M PV := xaT 1 1 xfD
noncomputable def xfc : xa6 → M (FR × xa6) :=
    (xa5 (xak 1 (xc8 xa8))
    (xa5 (xcB (xaP (xa3 0) (xai xbc xaW)) (xa5 (xb1 (xcs isL xco (xa3 1) (xa3 0)))
    (xa5 (xak 0 (xa9 xau (xa3 0)))
    xaC)))
    (xa5 (xeE 2 (xtE (xa3 1)) (xa5 (xb1 (xad xba (xa1 (xa3 2) xa8)))
    xaC))
    xaC)))
noncomputable def xcl : List PV → M PV := xaT 1 2 xfc
noncomputable def xcm : xa6 → M (FR × xa6) :=
    (xa5 (xak 1 (xa9 xaI (xa3 0)))
    (xa5 (xeE 2 (xeJ (xa1 (xa9 xat (xa3 0)) (xa1 (xa9 xaf (xa3 0)) xa8))) (xa5 (sIf (xaP (xa3 2) (xai xbc xaW)) (xa5 (xak 1 (xad xhJ (xa1 (xa3 1) (xa1 (xbG xda (xa9 xaA (xa3 2)) (xa9 xay (xa3 2))) xa8))))
    xaC) xaC)
    xaC))
    (xa5 (xcA (xa3 1))
    xaC)))
noncomputable def xaZ : List PV → M PV := xaT 1 2 xcm
noncomputable def xdU : xa6 → M (FR × xa6) :=
    (xa5 (xcB (xaP (xa3 0) (xai xbc xaW)) (xa5 (xak 1 (xad xaZ (xa1 (xa3 0) xa8)))
    (xa5 (sIf (xaP (xa3 1) (xai cEq (xa9 xaA (xa3 0)))) (xa5 xfR
    xaC) xaC)
    (xa5 (xa7 xaA (xa3 0) (xa3 1))
    (xa5 (xak 0 (xa9 xau (xa3 0)))
    xaC)))))
    xaC)
noncomputable def xcJ : List PV → M PV := xaT 1 1 xdU
noncomputable def xpW : xa6 → M (FR × xa6) :=
    (xa5 (sIf (xaP (xa3 1) (xai cIs xaW)) (xa5 (xa7 xbh (xa3 0) (xa3 3))
    xaC) (xa5 (sIf (xaP (xa9 xat (xa3 1)) (xai cIs (xa3 2))) (xa5 (xa7 xat (xa3 1) (xa3 3))
    xaC) (xa5 (xa7 xaf (xa3 1) (xa3 3))
    xaC))
    xaC))
    (xa5 (sIf (xaP (xa3 3) (xai xbc xaW)) (xa5 (xa7 xau (xa3 3) (xa3 1))
    xaC) xaC)
    xaC))
noncomputable def xjo : List PV → M PV := xaT 4 0 xpW
noncomputable def xgS : xa6 → M (FR × xa6) :=
    (xa5 (xak 2 (xa9 xaf (xa3 1)))
    (xa5 (xb1 (xad xba (xa1 (xa3 1) xa8)))
    (xa5 (xb1 (xad xba (xa1 (xa3 2) xa8)))
    (xa5 (xa7 xaf (xa3 1) (xa9 xat (xa3 2)))
    (xa5 (sIf (xaP (xa9 xat (xa3 2)) (xai xbc xaW)) (xa5 (xa7 xau (xa9 xat (xa3 2)) (xa3 1))
    xaC) xaC)
    (xa5 (xb1 (xad xjo (xa1 (xa3 0) (xa1 (xa9 xau (xa3 1)) (xa1 (xa3 1) (xa1 (xa3 2) xa8))))))
    (xa5 (xa7 xat (xa3 2) (xa3 1))
    (xa5 (xa7 xau (xa3 1) (xa3 2))
    (xa5 (xa7 xaA (xa3 1) (xad xaZ (xa1 (xa3 1) xa8)))
    (xa5 (xa7 xaA (xa3 2) (xad xaZ (xa1 (xa3 2) xa8)))
    xaC))))))))))
noncomputable def xdP : List PV → M PV := xaT 2 1 xgS
noncomputable def xgg : xa6 → M (FR × xa6) :=
    (xa5 (xak 2 (xa9 xat (xa3 1)))
    (xa5 (xb1 (xad xba (xa1 (xa3 1) xa8)))
    (xa5 (xb1 (xad xba (xa1 (xa3 2) xa8)))
    (xa5 (xa7 xat (xa3 1) (xa9 xaf (xa3 2)))
    (xa5 (sIf (xaP (xa9 xaf (xa3 2)) (xai xbc xaW)) (xa5 (xa7 xau (xa9 xaf (xa3 2)) (xa3 1))
    xaC) xaC)
    (xa5 (xb1 (xad xjo (xa1 (xa3 0) (xa1 (xa9 xau (xa3 1)) (xa1 (xa3 1) (xa1 (xa3 2) xa8))))))
    (xa5 (xa7 xaf (xa3 2) (xa3 1))
    (xa5 (xa7 xau (xa3 1) (xa3 2))
    (xa5 (xa7 xaA (xa3 1) (xad xaZ (xa1 (xa3 1) xa8)))
    (xa5 (xa7 xaA (xa3 2) (xad xaZ (xa1 (xa3 2) xa8)))
    xaC))))))))))
noncomputable def xdj : List PV → M PV := xaT 2 1 xgg
noncomputable def xlJ : xa6 → M (FR × xa6) :=
    (xa5 (xcA (xoC (xdY (xa3 0) (xai xbc xaW)) (xa9 xan (xa3 0))))
    xaC)
noncomputable def xdW : List PV → M PV := xaT 1 0 xlJ
noncomputable def xez : xa6 → M (FR × xa6) :=
    (xa5 (xak 3 (xa9 xau (xa3 1)))
    (xa5 (sIf (xcK (xbe (xa3 2)) (xcK (xaP (xa9 xaf (xa3 3)) (xai cIs (xa3 1))) xbV)) (xa5 (xb1 (xad xdP (xa1 (xa3 0) (xa1 (xa3 3) xa8))))
    (xa5 (xcA (xa3 3))
    xaC)) xaC)
    (xa5 (sIf (xcK (xoM (xbe (xa3 2))) (xcK (xaP (xa9 xat (xa3 3)) (xai cIs (xa3 1))) xbV)) (xa5 (xb1 (xad xdj (xa1 (xa3 0) (xa1 (xa3 3) xa8))))
    (xa5 (xcA (xa3 3))
    xaC)) xaC)
    (xa5 (xcA (xa3 1))
    xaC))))
noncomputable def xdp : List PV → M PV := xaT 3 1 xez
noncomputable def xdN : xa6 → M (FR × xa6) :=
    (xa5 (xcB (xbe (xad xdW (xa1 (xa9 xau (xa3 1)) xa8))) (xa5 (xak 2 (xa9 xau (xa3 1)))
    (xa5 (xak 3 (xa9 xau (xa3 2)))
    (xa5 (xak 4 (xdY (xa9 xat (xa3 3)) (xai cIs (xa3 2))))
    (xa5 (xak 5 (eIf (xbe (xa3 4)) (xa9 xaf (xa3 3)) (xa9 xat (xa3 3))))
    (xa5 (sIf (xbe (xad xdW (xa1 (xa3 5) xa8))) (xa5 (xa7 xan (xa3 2) (xch false))
    (xa5 (xa7 xan (xa3 5) (xch false))
    (xa5 (xa7 xan (xa3 3) (xch true))
    (xa5 (xak 1 (xa3 3))
    xaC)))) (xa5 (xak 1 (xad xdp (xa1 (xa3 0) (xa1 (xa3 1) (xa1 (xa3 4) xa8)))))
    (xa5 (xa7 xan (xa9 xau (xa3 1)) (xch false))
    (xa5 (xa7 xan (xa3 3) (xch true))
    (xa5 (sIf (xbe (xa3 4)) (xa5 (xb1 (xad xdj (xa1 (xa3 0) (xa1 (xa3 3) xa8))))
    xaC) (xa5 (xb1 (xad xdP (xa1 (xa3 0) (xa1 (xa3 3) xa8))))
    xaC))
    xaC)))))
    xaC))))))
    (xa5 (xa7 xan (xa9 xbh (xa3 0)) (xch false))
    xaC))
noncomputable def xbU : List PV → M PV := xaT 2 4 xdN
noncomputable def xgF : xa6 → M (FR × xa6) :=
    (xa5 (xa7 xcu (xa3 0) (xbG xda (xa9 xcu (xa3 0)) (xaK 1)))
    (xa5 (xa7 xat (xa3 1) xaW)
    (xa5 (xa7 xaf (xa3 1) xaW)
    (xa5 (xa7 xau (xa3 1) xaW)
    (xa5 (xa7 xay (xa3 1) (xaK 0))
    (xa5 (xa7 xaA (xa3 1) (xa9 xaI (xa3 1)))
    (xa5 (sIf (xaP (xa9 xbh (xa3 0)) (xai cIs xaW)) (xa5 (xa7 xan (xa3 1) (xch false))
    (xa5 (xa7 xbh (xa3 0) (xa3 1))
    (xa5 xfR
    xaC))) xaC)
    (xa5 (xak 2 (xa9 xbh (xa3 0)))
    (xa5 (xak 3 xaW)
    (xa5 (xak 4 (xch false))
    (xa5 (xcB (xaP (xa3 2) (xai xbc xaW)) (xa5 (xb1 (xad xba (xa1 (xa3 2) xa8)))
    (xa5 (xa7 xaA (xa3 2) (xad xhJ (xa1 (xa9 xaA (xa3 2)) (xa1 (xa9 xaI (xa3 1)) xa8))))
    (xa5 (xak 3 (xa3 2))
    (xa5 (xak 4 (xdY (xa9 xal (xa3 1)) (xai cLe (xa9 xal (xa3 2)))))
    (xa5 (xak 2 (eIf (xbe (xa3 4)) (xa9 xat (xa3 2)) (xa9 xaf (xa3 2))))
    xaC))))))
    (xa5 (xa7 xau (xa3 1) (xa3 3))
    (xa5 (sIf (xbe (xa3 4)) (xa5 (xa7 xat (xa3 3) (xa3 1))
    xaC) (xa5 (xa7 xaf (xa3 3) (xa3 1))
    xaC))
    (xa5 (xa7 xan (xa3 1) (xch true))
    (xa5 (xb1 (xad xbU (xa1 (xa3 0) (xa1 (xa3 1) xa8))))
    xaC)))))))))))))))
noncomputable def xdM : List PV → M PV := xaT 2 3 xgF
noncomputable def xfL : xa6 → M (FR × xa6) :=
    (xa5 (xb1 (xad xba (xa1 (xa3 0) xa8)))
    (xa5 (xcB (xaP (xa9 xat (xa3 0)) (xai xbc xaW)) (xa5 (xak 0 (xa9 xat (xa3 0)))
    (xa5 (xb1 (xad xba (xa1 (xa3 0) xa8)))
    xaC)))
    (xa5 (xcA (xa3 0))
    xaC)))
noncomputable def xed : List PV → M PV := xaT 1 0 xfL
noncomputable def xga : xa6 → M (FR × xa6) :=
    (xa5 (xb1 (xad xjo (xa1 (xa3 0) (xa1 (xa9 xau (xa3 1)) (xa1 (xa3 1) (xa1 (xa3 2) xa8))))))
    (xa5 (xa7 xat (xa3 2) (xa9 xat (xa3 1)))
    (xa5 (xa7 xaf (xa3 2) (xa9 xaf (xa3 1)))
    (xa5 (xa7 xan (xa3 2) (xa9 xan (xa3 1)))
    (xa5 (xeE 3 (xeJ (xa1 (xa9 xat (xa3 2)) (xa1 (xa9 xaf (xa3 2)) xa8))) (xa5 (sIf (xaP (xa3 3) (xai xbc xaW)) (xa5 (xa7 xau (xa3 3) (xa3 2))
    xaC) xaC)
    xaC))
    (xa5 (xa7 xaA (xa3 2) (xad xaZ (xa1 (xa3 2) xa8)))
    xaC))))))
noncomputable def xf0 : List PV → M PV := xaT 3 1 xga
noncomputable def xf9 : xa6 → M (FR × xa6) :=
    (xa5 (sIf (xbe (xa3 2)) (xa5 (xb1 (xad xdP (xa1 (xa3 0) (xa1 (xa3 1) xa8))))
    xaC) (xa5 (xb1 (xad xdj (xa1 (xa3 0) (xa1 (xa3 1) xa8))))
    xaC))
    xaC)
noncomputable def xcL : List PV → M PV := xaT 3 0 xf9
noncomputable def xgl : xa6 → M (FR × xa6) :=
    (xa5 (xcA (eIf (xbe (xa3 1)) (xa9 xaf (xa3 0)) (xa9 xat (xa3 0))))
    xaC)
noncomputable def xdm : List PV → M PV := xaT 2 0 xgl
noncomputable def xh9 : xa6 → M (FR × xa6) :=
    (xa5 (xak 4 (xad xdm (xa1 (xa3 2) (xa1 (xa3 3) xa8))))
    (xa5 (sIf (xbe (xad xdW (xa1 (xa3 4) xa8))) (xa5 (xa7 xan (xa3 4) (xch false))
    (xa5 (xa7 xan (xa3 2) (xch true))
    (xa5 (xb1 (xad xcL (xa1 (xa3 0) (xa1 (xa3 2) (xa1 (xa3 3) xa8)))))
    (xa5 (xak 4 (xad xdm (xa1 (xa3 2) (xa1 (xa3 3) xa8))))
    xaC)))) xaC)
    (xa5 (xak 5 (eIf (xbe (xa3 3)) (xa9 xaf (xa3 4)) (xa9 xat (xa3 4))))
    (xa5 (xak 6 (eIf (xbe (xa3 3)) (xa9 xat (xa3 4)) (xa9 xaf (xa3 4))))
    (xa5 (sIf (xcK (xoM (xbe (xad xdW (xa1 (xa3 5) xa8)))) (xcK (xoM (xbe (xad xdW (xa1 (xa3 6) xa8)))) xbV)) (xa5 (xa7 xan (xa3 4) (xch true))
    (xa5 (sIf (tOr (xbe (xa9 xan (xa3 2))) (tOr (xaP (xa3 2) (xai cIs (xa9 xbh (xa3 0)))) xkC)) (xa5 (xa7 xan (xa3 2) (xch false))
    (xa5 (xcA xaW)
    xaC)) xaC)
    (xa5 (xcA (xa3 2))
    xaC))) xaC)
    (xa5 (sIf (xoM (xbe (xad xdW (xa1 (xa3 5) xa8)))) (xa5 (xa7 xan (xa3 6) (xch false))
    (xa5 (xa7 xan (xa3 4) (xch true))
    (xa5 (xb1 (xad xcL (xa1 (xa3 0) (xa1 (xa3 4) (xa1 (xqM (xa3 3)) xa8)))))
    (xa5 (xak 4 (xad xdm (xa1 (xa3 2) (xa1 (xa3 3) xa8))))
    (xa5 (xak 5 (eIf (xbe (xa3 3)) (xa9 xaf (xa3 4)) (xa9 xat (xa3 4))))
    xaC))))) xaC)
    (xa5 (xa7 xan (xa3 4) (xa9 xan (xa3 2)))
    (xa5 (xa7 xan (xa3 2) (xch false))
    (xa5 (xa7 xan (xa3 5) (xch false))
    (xa5 (xb1 (xad xcL (xa1 (xa3 0) (xa1 (xa3 2) (xa1 (xa3 3) xa8)))))
    (xa5 (xcA xaW)
    xaC)))))))))))
noncomputable def xfB : List PV → M PV := xaT 4 3 xh9
noncomputable def xdZ : xa6 → M (FR × xa6) :=
    (xa5 (xcB (xcK (xaP (xa3 1) (xai xbc (xa9 xbh (xa3 0)))) (xcK (xoM (xbe (xad xdW (xa1 (xa3 1) xa8)))) xbV)) (xa5 (xak 3 (xdY (xa9 xat (xa3 2)) (xai cIs (xa3 1))))
    (xa5 (xak 1 (xad xfB (xa1 (xa3 0) (xa1 (xa3 1) (xa1 (xa3 2) (xa1 (xa3 3) xa8))))))
    (xa5 (sIf (xaP (xa3 1) (xai cIs xaW)) (xa5 xfR
    xaC) xaC)
    (xa5 (xak 2 (xa9 xau (xa3 1)))
    xaC)))))
    (xa5 (sIf (xaP (xa3 1) (xai xbc xaW)) (xa5 (xa7 xan (xa3 1) (xch false))
    xaC) xaC)
    xaC))
noncomputable def xde : List PV → M PV := xaT 3 1 xdZ
noncomputable def xgW : xa6 → M (FR × xa6) :=
    (xa5 (xa7 xcu (xa3 0) (xbG xhc (xa9 xcu (xa3 0)) (xaK 1)))
    (xa5 (xb1 (xad xcl (xa1 (xa3 1) xa8)))
    (xa5 (xak 2 (xa3 1))
    (xa5 (sIf (xcK (xaP (xa9 xat (xa3 1)) (xai xbc xaW)) (xcK (xaP (xa9 xaf (xa3 1)) (xai xbc xaW)) xbV)) (xa5 (xak 2 (xad xed (xa1 (xa9 xaf (xa3 1)) xa8)))
    xaC) xaC)
    (xa5 (xak 3 (eIf (xaP (xa9 xat (xa3 2)) (xai xbc xaW)) (xa9 xat (xa3 2)) (xa9 xaf (xa3 2))))
    (xa5 (xak 4 (xa9 xau (xa3 2)))
    (xa5 (xak 5 (xa9 xan (xa3 2)))
    (xa5 (xb1 (xad xjo (xa1 (xa3 0) (xa1 (xa3 4) (xa1 (xa3 2) (xa1 (xa3 3) xa8))))))
    (xa5 (sIf (xaP (xa3 2) (xai xbc (xa3 1))) (xa5 (xb1 (xad xf0 (xa1 (xa3 0) (xa1 (xa3 1) (xa1 (xa3 2) xa8)))))
    (xa5 (xak 4 (eIf (xaP (xa3 4) (xai cIs (xa3 1))) (xa3 2) (xa3 4)))
    xaC)) xaC)
    (xa5 (xak 6 (xa3 4))
    (xa5 (xcB (xaP (xa3 6) (xai xbc xaW)) (xa5 (xa7 xaA (xa3 6) (xad xaZ (xa1 (xa3 6) xa8)))
    (xa5 (xak 6 (xa9 xau (xa3 6)))
    xaC)))
    (xa5 (sIf (xoM (xbe (xa3 5))) (xa5 (xb1 (xad xde (xa1 (xa3 0) (xa1 (xa3 3) (xa1 (xa3 4) xa8)))))
    xaC) xaC)
    (xa5 (xa7 xat (xa3 1) xaW)
    (xa5 (xa7 xaf (xa3 1) xaW)
    (xa5 (xa7 xau (xa3 1) xaW)
    xaC)))))))))))))))
noncomputable def xdf : List PV → M PV := xaT 2 5 xgW
noncomputable def xcZ : xa6 → M (FR × xa6) :=
    (xa5 (xak 3 (xc8 xa8))
    (xa5 (xak 4 (xc8 xa8))
    (xa5 (xak 5 (xa9 xbh (xa3 0)))
    (xa5 (xcB (tOr (xaP (xa3 5) (xai xbc xaW)) (tOr (xaP (xad xgx (xa1 (xa3 4) xa8)) (xai cGt (xaK 0))) xkC)) (xa5 (xcB (xaP (xa3 5) (xai xbc xaW)) (xa5 (xb1 (xad xba (xa1 (xa3 5) xa8)))
    (xa5 (sIf (xaP (xa9 xaA (xa3 5)) (xai cLt (xa3 1))) (xa5 (xak 5 xaW)
    xaC) (xa5 (xb1 (xcs isL xco (xa3 4) (xa3 5)))
    (xa5 (xak 5 (xa9 xat (xa3 5)))
    xaC)))
    xaC)))
    (xa5 (sIf (xaP (xad xgx (xa1 (xa3 4) xa8)) (xai cGt (xaK 0))) (xa5 (xak 5 (xjp isL xrB (xa3 4)))
    (xa5 (sIf (xcK (xaP (xa9 xal (xa3 5)) (xai cLe (xa3 2))) (xcK (xaP (xa9 xaI (xa3 5)) (xai cGe (xa3 1))) xbV)) (xa5 (xb1 (xcs isL xco (xa3 3) (xa3 5)))
    xaC) xaC)
    (xa5 (xak 5 (eIf (xaP (xa9 xal (xa3 5)) (xai cLe (xa3 2))) (xa9 xaf (xa3 5)) xaW))
    xaC))) xaC)
    xaC)))
    (xa5 (xcA (xa3 3))
    xaC)))))
noncomputable def xb0 : List PV → M PV := xaT 3 3 xcZ
noncomputable def xfq : xa6 → M (FR × xa6) :=
    (xa5 (sIf (xaP (xa3 2) (xai cLe (xaK 0))) (xa5 xfR
    xaC) xaC)
    (xa5 (xak 3 (xc8 (xa1 (xa9 xbh (xa3 0)) xa8)))
    (xa5 (xcB (xaP (xad xgx (xa1 (xa3 3) xa8)) (xai cGt (xaK 0))) (xa5 (xak 4 (xjp isL xrB (xa3 3)))
    (xa5 (sIf (xaP (xa3 4) (xai xbc xaW)) (xa5 (xb1 (xad xba (xa1 (xa3 4) xa8)))
    (xa5 (sIf (xaP (xa9 xaA (xa3 4)) (xai cGt (xa3 1))) (xa5 (sIf (xcK (xaP (xa9 xaf (xa3 4)) (xai xbc xaW)) (xcK (xaP (xa9 xal (xa3 4)) (xai cGt (xbG xda (xa3 1) (xa3 2)))) xbV)) (xa5 (xa7 xay (xa9 xaf (xa3 4)) (xbG xhc (xa9 xay (xa9 xaf (xa3 4))) (xa3 2)))
    xaC) (xa5 (xb1 (xcs isL xco (xa3 3) (xa9 xaf (xa3 4))))
    xaC))
    (xa5 (xb1 (xcs isL xco (xa3 3) (xa9 xat (xa3 4))))
    (xa5 (sIf (xaP (xa9 xal (xa3 4)) (xai cGt (xa3 1))) (xa5 (xa7 xal (xa3 4) (xad xhJ (xa1 (xa3 1) (xa1 (xbG xhc (xa9 xal (xa3 4)) (xa3 2)) xa8))))
    xaC) xaC)
    (xa5 (sIf (xaP (xa9 xaI (xa3 4)) (xai cGt (xa3 1))) (xa5 (xa7 xaI (xa3 4) (xad xhJ (xa1 (xa3 1) (xa1 (xbG xhc (xa9 xaI (xa3 4)) (xa3 2)) xa8))))
    xaC) xaC)
    (xa5 (xb1 (xad xcJ (xa1 (xa3 4) xa8)))
    xaC))))) xaC)
    xaC)) xaC)
    xaC)))
    xaC)))
noncomputable def xeD : List PV → M PV := xaT 3 2 xfq
noncomputable def xub : xa6 → M (FR × xa6) :=
    (xa5 (sIf (tOr (xbe (xj3 (xa3 0))) (tOr (xbe (xj3 (xa3 1))) xkC)) (xa5 (xcA (xoC (xj3 (xa3 0)) (xoC (xj3 (xa3 1)) (xdY (xa3 0) (xai cEq (xa3 1))))))
    xaC) xaC)
    (xa5 (xcA (xdY (xa3 0) (xai cEq (xa3 1))))
    xaC))
noncomputable def xsK : List PV → M PV := xaT 2 0 xub
noncomputable def xdl : xa6 → M (FR × xa6) :=
    (xa5 (xeE 2 (xad xdE (xa1 (xad xgx (xa1 (xa3 0) xa8)) xa8)) (xa5 (sIf (xaP (xbE (xbE (xa3 0) (xa3 2)) (xaK 0)) (xai cEq (xa3 1))) (xa5 (xcA (xa3 2))
    xaC) xaC)
    xaC))
    (xa5 (xcA (xud (xaK 1)))
    xaC))
noncomputable def xbI : List PV → M PV := xaT 2 1 xdl
noncomputable def xfE : xa6 → M (FR × xa6) :=
    (xa5 (xak 2 (xad xbI (xa1 (xa3 0) (xa1 (xa3 1) xa8))))
    (xa5 (xcA (eIf (xaP (xa3 2) (xai cGe (xaK 0))) (xeJ (xa1 (xbE (xbE (xa3 0) (xa3 2)) (xaK 1)) xa8)) xaW))
    xaC))
noncomputable def xcG : List PV → M PV := xaT 2 1 xfE
noncomputable def xeV : xa6 → M (FR × xa6) :=
    (xa5 (xak 3 (xad xbI (xa1 (xa3 0) (xa1 (xa3 1) xa8))))
    (xa5 (sIf (xaP (xa3 3) (xai cLt (xaK 0))) (xa5 (xcA (xbG xpl (xa3 0) (xc8 (xa1 (xeJ (xa1 (xa3 1) (xa1 (xa3 2) xa8))) xa8))))
    xaC) xaC)
    (xa5 xrq
    xaC)))
noncomputable def xdk : List PV → M PV := xaT 3 1 xeV
noncomputable def xeW : xa6 → M (FR × xa6) :=
    (xa5 (xak 3 (xad xbI (xa1 (xa3 0) (xa1 (xa3 1) xa8))))
    (xa5 (xcA (xoC (xdY (xa3 3) (xai cGe (xaK 0))) (xad xsK (xa1 (xbE (xbE (xa3 0) (xa3 3)) (xaK 1)) (xa1 (xa3 2) xa8)))))
    xaC))
noncomputable def xdn : List PV → M PV := xaT 3 1 xeW
noncomputable def xeS : xa6 → M (FR × xa6) :=
    (xa5 (xcA (xbG xda (xa9 xhD (xa3 0)) (xql xof (xa3 1))))
    xaC)
noncomputable def xbP : List PV → M PV := xaT 2 0 xeS
noncomputable def xe2 : xa6 → M (FR × xa6) :=
    (xa5 (xa7 xnp (xa3 0) (xa3 1))
    (xa5 (xa7 xf4 (xa3 0) (xa9 xf4 (xa3 1)))
    (xa5 (xa7 xh0 (xa3 0) (xa9 xh0 (xa3 1)))
    (xa5 (xa7 xcR (xa3 0) (xn9 5 xbP (xa3 1) (xa1 (xsN "category") xa8)))
    (xa5 (xa7 xep (xa3 0) (xn9 5 xbP (xa3 1) (xa1 (xsN "front-sticky") xa8)))
    (xa5 (xa7 xdS (xa3 0) (xn9 5 xbP (xa3 1) (xa1 (xsN "rear-nonsticky") xa8)))
    (xa5 (xa7 xbH (xa3 0) (xn9 5 xbP (xa3 1) (xa1 (xsN "evaporate") xa8)))
    (xa5 (xa7 xhb (xa3 0) (xn9 5 xbP (xa3 1) (xa1 (xsN "priority") xa8)))
    (xa5 (xa7 xha (xa3 0) xkr)
    xaC)))))))))
noncomputable def xe6 : List PV → M PV := xaT 2 0 xe2
noncomputable def xbX : xa6 → M (FR × xa6) :=
    (xa5 (xcA (xad xsK (xa1 (xa3 1) (xa1 (xa9 xf4 (xa3 0)) xa8))))
    xaC)
noncomputable def xaY : List PV → M PV := xaT 2 0 xbX
noncomputable def xgD : xa6 → M (FR × xa6) :=
    (xa5 (xak 3 (xad xcG (xa1 (xa3 1) (xa1 (xa3 2) xa8))))
    (xa5 (sIf (xaP (xa3 3) (xai cIs xaW)) (xa5 (xak 4 (xad xcG (xa1 (xa3 1) (xa1 (xa9 xcR (xa3 0)) xa8))))
    (xa5 (sIf (xcK (xaP (xa3 4) (xai xbc xaW)) (xcK xrN xbV)) (xa5 xrq
    xaC) xaC)
    xaC)) xaC)
    (xa5 (xcA (eIf (xaP (xa3 3) (xai cIs xaW)) (xa9 xf4 (xa3 0)) (xbE (xa3 3) (xaK 0))))
    xaC)))
noncomputable def xfl : List PV → M PV := xaT 3 2 xgD
noncomputable def xd6 : List PV → M PV := xhr 0 xcM
noncomputable def xcP : xa6 → M (FR × xa6) :=
    (xa5 (xa7 xb6 (xa3 0) (xa3 1))
    (xa5 (xa7 xb9 (xa3 0) (xad xd6 (xa1 (xa3 1) (xa1 (xaK 0) (xa1 (xaK 0) (xa1 (xa3 2) (xa1 (xa3 3) xa8)))))))
    (xa5 (xa7 xbn (xa3 0) xaW)
    (xa5 (xa7 xbK (xa3 0) (xc8 xa8))
    xaC))))
noncomputable def xcQ : List PV → M PV := xaT 4 0 xcP
noncomputable def xhm : List PV → M PV := xhr 1 xdA
noncomputable def xdD : xa6 → M (FR × xa6) :=
    (xa5 (xa7 xbv (xa3 0) (xad xhm xa8))
    (xa5 (xa7 xbf (xa3 0) xkr)
    (xa5 (xa7 xc9 (xa3 0) (xa3 1))
    xaC)))
noncomputable def xdC : List PV → M PV := xaT 2 0 xdD
noncomputable def xgA : xa6 → M (FR × xa6) :=
    (xa5 (xcA (xdg [true, false] (xa3 1) xbV (xbE (xa9 xbf (xa3 1)) (xa9 xb6 (xa3 0)))))
    xaC)
noncomputable def xdI : List PV → M PV := xaT 2 0 xgA
noncomputable def xe7 : xa6 → M (FR × xa6) :=
    (xa5 (xcA (xad xfl (xa1 (xa3 0) (xa1 (xa9 xbK (xa3 1)) (xa1 (xa3 2) xa8)))))
    xaC)
noncomputable def xcF : List PV → M PV := xaT 3 0 xe7
noncomputable def xeg : xa6 → M (FR × xa6) :=
    (xa5 (xcA (xqM (xn9 4 xaY (xa3 0) (xa1 (xad xcF (xa1 (xa3 0) (xa1 (xa3 1) (xa1 (xa9 xbH (xa3 0)) xa8)))) xa8))))
    xaC)
noncomputable def xbw : List PV → M PV := xaT 2 0 xeg
noncomputable def xeh : xa6 → M (FR × xa6) :=
    (xa5 (sIf (xaP (xa9 xbn (xa3 0)) (xai xbc xaW)) (xa5 (xb1 (xad xdf (xa1 (xa9 xbv (xa9 xbn (xa3 0))) (xa1 (xa9 xb9 (xa3 0)) xa8))))
    (xa5 (xb1 (xcs isD xle (xa9 xbf (xa9 xbn (xa3 0))) (xa9 xb6 (xa3 0))))
    (xa5 (xa7 xbn (xa3 0) xaW)
    xaC))) xaC)
    xaC)
noncomputable def xbA : List PV → M PV := xaT 1 0 xeh
noncomputable def xfv : xa6 → M (FR × xa6) :=
    (xa5 (xb1 (xad xeD (xa1 (xa9 xbv (xa3 0)) (xa1 (xa3 1) (xa1 (xa3 2) xa8)))))
    (xa5 (xeE 3 (xad xdI (xa1 (xa3 0) (xa1 (xad xb0 (xa1 (xa9 xbv (xa3 0)) (xa1 (xa3 1) (xa1 (xa3 1) xa8)))) xa8))) (xa5 (sIf (xcK (xaP (xa9 xal (xa9 xb9 (xa3 3))) (xai cEq (xa9 xaI (xa9 xb9 (xa3 3))))) (xcK (xbe (xad xbw (xa1 (xa9 xc9 (xa3 0)) (xa1 (xa3 3) xa8)))) xbV)) (xa5 (xb1 (xad xbA (xa1 (xa3 3) xa8)))
    xaC) xaC)
    xaC))
    xaC))
noncomputable def xeC : List PV → M PV := xaT 3 1 xfv
noncomputable def xcg : xa6 → M (FR × xa6) :=
    (xa5 (xb1 (xad xeC (xa1 (xa3 0) (xa1 (xa3 1) (xa1 (xbG xhc (xa3 2) (xa3 1)) xa8)))))
    xaC)
noncomputable def xbq : List PV → M PV := xaT 3 0 xcg
noncomputable def xdx : xa6 → M (FR × xa6) :=
    (xa5 (xb1 (xad xcl (xa1 (xa9 xb9 (xa3 0)) xa8)))
    (xa5 (xcA (xa9 xal (xa9 xb9 (xa3 0))))
    xaC))
noncomputable def xbt : List PV → M PV := xaT 1 0 xdx
noncomputable def xeb : xa6 → M (FR × xa6) :=
    (xa5 (xb1 (xad xcl (xa1 (xa9 xb9 (xa3 0)) xa8)))
    (xa5 (xcA (xa9 xaI (xa9 xb9 (xa3 0))))
    xaC))
noncomputable def xbR : List PV → M PV := xaT 1 0 xeb
noncomputable def xri : xa6 → M (FR × xa6) :=
    (xa5 (xb1 (xad xbA (xa1 (xa3 0) xa8)))
    (xa5 (xa7 xal (xa9 xb9 (xa3 0)) (xad xpk (xa1 (xa3 2) (xa1 (xa3 3) xa8))))
    (xa5 (xa7 xaI (xa9 xb9 (xa3 0)) (xad xhJ (xa1 (xa3 2) (xa1 (xa3 3) xa8))))
    (xa5 (xa7 xbn (xa3 0) (xa3 1))
    (xa5 (xdR (xa9 xbf (xa3 1)) (xa9 xb6 (xa3 0)) (xa3 0))
    (xa5 (xb1 (xad xdM (xa1 (xa9 xbv (xa3 1)) (xa1 (xa9 xb9 (xa3 0)) xa8))))
    xaC))))))
noncomputable def xlP : List PV → M PV := xaT 4 0 xri
noncomputable def xgo : List PV → M PV := xhr 2 xcQ
noncomputable def xdT : xa6 → M (FR × xa6) :=
    (xa5 (xak 6 (xad xgo (xa1 (xa3 1) (xa1 (xa3 4) (xa1 (xa3 5) xa8)))))
    (xa5 (xb1 (xad xlP (xa1 (xa3 6) (xa1 (xa3 0) (xa1 (xa3 2) (xa1 (xa3 3) xa8))))))
    (xa5 (xcA (xa3 6))
    xaC)))
noncomputable def xcp : List PV → M PV := xaT 6 1 xdT
noncomputable def xdu : xa6 → M (FR × xa6) :=
    (xa5 (xb1 (xad xlP (xa1 (xa3 0) (xa1 (xa3 1) (xa1 (xa3 2) (xa1 (xa3 3) xa8))))))
    (xa5 (sIf (xcK (xaP (xa3 2) (xai cEq (xa3 3))) (xcK (xbe (xad xbw (xa1 (xa9 xc9 (xa3 1)) (xa1 (xa3 0) xa8)))) xbV)) (xa5 (xb1 (xad xbA (xa1 (xa3 0) xa8)))
    xaC) xaC)
    xaC))
noncomputable def xc6 : List PV → M PV := xaT 4 0 xdu
noncomputable def xea : xa6 → M (FR × xa6) :=
    (xa5 (xak 4 (xqM (xad xdn (xa1 (xa9 xbK (xa3 1)) (xa1 (xa3 2) (xa1 (xa3 3) xa8))))))
    (xa5 (sIf (xbe (xa3 4)) (xa5 (xa7 xbK (xa3 1) (xad xdk (xa1 (xa9 xbK (xa3 1)) (xa1 (xa3 2) (xa1 (xa3 3) xa8)))))
    xaC) xaC)
    (xa5 (sIf (xcK (xaP (xa3 2) (xai cEq (xa9 xbH (xa3 0)))) (xcK (xoM (xbe (xn9 4 xaY (xa3 0) (xa1 (xa3 3) xa8)))) (xcK (xaP (xa9 xbn (xa3 1)) (xai xbc xaW)) xbV))) (xa5 (sIf (xaP (xad xbt (xa1 (xa3 1) xa8)) (xai cEq (xad xbR (xa1 (xa3 1) xa8)))) (xa5 (xb1 (xad xbA (xa1 (xa3 1) xa8)))
    xaC) xaC)
    xaC) xaC)
    (xa5 (xcA (xa3 4))
    xaC))))
noncomputable def xci : List PV → M PV := xaT 4 1 xea
noncomputable def xee : xa6 → M (FR × xa6) :=
    (xa5 (xcA (xad xdI (xa1 (xa3 0) (xa1 (xdg [false, true] (xad xb0 (xa1 (xa9 xbv (xa3 0)) (xa1 (xa3 1) (xa1 (xa3 1) xa8)))) (xaP (xa9 xal (xa3 0)) (xbQ cLe (xa3 2) (xai cLt (xa9 xaI (xa3 0))))) (xa3 0)) xa8))))
    xaC)
noncomputable def xcH : List PV → M PV := xaT 2 0 xee
noncomputable def xkE : xa6 → M (FR × xa6) :=
    (xa5 (sIf (xaP (xa9 xal (xa3 0)) (xai cLt (xa9 xaI (xa3 0)))) (xa5 (xcA (xoC (xdY (xa9 xal (xa3 0)) (xai cLt (xa3 2))) (xdY (xa9 xaI (xa3 0)) (xai cGt (xa3 1)))))
    xaC) xaC)
    (xa5 (xcA (eOr (xdY (xa9 xal (xa3 0)) (xai cEq (xa3 1))) (eOr (xdY (xa3 1) (xbQ cLt (xa9 xal (xa3 0)) (xai cLt (xa3 2)))) (xoC (xdY (xa9 xal (xa3 0)) (xai cEq (xa3 2))) (xa3 3)))))
    xaC))
noncomputable def xi6 : List PV → M PV := xaT 4 0 xkE
noncomputable def xe9 : xa6 → M (FR × xa6) :=
    (xa5 (xak 4 (xdg [false, true, true, true, false] (xad xb0 (xa1 (xa9 xbv (xa3 0)) (xa1 (xa3 1) (xa1 (xa3 2) xa8)))) (xbe (xad xi6 (xa1 (xa3 0) (xa1 (xa3 2) (xa1 (xa3 3) (xa1 (xdY (xa3 3) (xai cEq (xa3 4))) xa8)))))) (xa3 0)))
    (xa5 (xcA (xad xdI (xa1 (xa3 0) (xa1 (xa3 4) xa8))))
    xaC))
noncomputable def xcE : List PV → M PV := xaT 4 1 xe9
noncomputable def xce : xa6 → M (FR × xa6) :=
    (xa5 (xak 3 (xa3 2))
    (xa5 (xeE 4 (xad xb0 (xa1 (xa9 xbv (xa3 0)) (xa1 (xa3 1) (xa1 (xa3 2) xa8)))) (xa5 (xeE 5 (xeJ (xa1 (xa9 xal (xa3 4)) (xa1 (xa9 xaI (xa3 4)) xa8))) (xa5 (sIf (xaP (xa3 1) (xbQ cLt (xa3 5) (xai cLt (xa3 3)))) (xa5 (xak 3 (xa3 5))
    xaC) xaC)
    xaC))
    xaC))
    (xa5 (xcA (xa3 3))
    xaC)))
noncomputable def xbs : List PV → M PV := xaT 3 3 xce
noncomputable def xbW : xa6 → M (FR × xa6) :=
    (xa5 (xak 3 (xa3 2))
    (xa5 (xeE 4 (xad xb0 (xa1 (xa9 xbv (xa3 0)) (xa1 (xa3 2) (xa1 (xa3 1) xa8)))) (xa5 (xeE 5 (xeJ (xa1 (xa9 xal (xa3 4)) (xa1 (xa9 xaI (xa3 4)) xa8))) (xa5 (sIf (xaP (xa3 3) (xbQ cLt (xa3 5) (xai cLt (xa3 1)))) (xa5 (xak 3 (xa3 5))
    xaC) xaC)
    xaC))
    xaC))
    (xa5 (xcA (xa3 3))
    xaC)))
noncomputable def xbg : List PV → M PV := xaT 3 3 xbW
noncomputable def xe3 : xa6 → M (FR × xa6) :=
    (xa5 (xa7 xhD (xa3 0) (xa3 1))
    (xa5 (xa7 xf4 (xa3 0) xaW)
    (xa5 (xa7 xh0 (xa3 0) (xch true))
    (xa5 (xa7 xj1 (xa3 0) xkr)
    xaC))))
noncomputable def xe4 : List PV → M PV := xaT 2 0 xe3
noncomputable def xdG : xa6 → M (FR × xa6) :=
    (xa5 (xdR (xa3 0) (xaK 1) (xbG xda (xbE (xa3 0) (xaK 1)) (xaK 1)))
    (xa5 (sIf (xaP (xbE (xa3 0) (xaK 1)) (xai cLe (xad xgx (xa1 (xbE (xa3 0) (xaK 0)) xa8)))) (xa5 (xcA (xbG xsa (xbE (xbE (xa3 0) (xaK 0)) (xbG xhc (xbE (xa3 0) (xaK 1)) (xaK 1))) (xa3 1)))
    xaC) xaC)
    (xa5 (xcA (xbG xsa (xbG xtH (xbG xda (xbG xda (xbG xl2 (xbG xl2 (xbE (xa3 0) (xaK 1)) (xbE (xa3 0) (xaK 1))) (xaK 41)) (xbG xl2 (xaK 13) (xbE (xa3 0) (xaK 1)))) (xbG xl2 (xaK 5) (xad xgx (xa1 (xbE (xa3 0) (xaK 0)) xa8)))) (xaK 3)) (xa3 1)))
    xaC)))
noncomputable def xaF : List PV → M PV := xaT 2 0 xdG
noncomputable def xeQ : xa6 → M (FR × xa6) :=
    (xa5 (xcy [4, 5, 6, 7] (xeJ (xa1 (xad xgx (xa1 (xa3 3) xa8)) (xa1 (xad xaF (xa1 (xa3 0) (xa1 (xaK 14) xa8))) (xa1 (xad xaF (xa1 (xa3 0) (xa1 (xaK 4) xa8))) (xa1 (xad xaF (xa1 (xa3 0) (xa1 (xaK 3) xa8))) xa8))))))
    (xa5 (xb1 (xcs isL xco (xa3 3) (xad xcp (xa1 (xa3 1) (xa1 (xa3 4) (xa1 (xa3 5) (xa1 (xad xpk (xa1 (xaK 16) (xa1 (xbG xda (xa3 5) (xa3 6)) xa8))) (xa1 (xdY (xad xaF (xa1 (xa3 0) (xa1 (xaK 2) xa8))) (xai cEq (xaK 1))) (xa1 (xdY (xa3 7) (xai cEq (xaK 2))) xa8)))))))))
    (xa5 (xdR (xa3 2) (xa3 4) (xc8 (xa1 (xa3 5) (xa1 (xad xpk (xa1 (xaK 16) (xa1 (xbG xda (xa3 5) (xa3 6)) xa8))) (xa1 (xdY (xa3 7) (xai cEq (xaK 1))) xa8)))))
    (xa5 (sIf (xaP (xa3 7) (xai cEq (xaK 1))) (xa5 (xb1 (xad xci (xa1 (xa9 xc9 (xa3 1)) (xa1 (xbE (xa3 3) (xa3 4)) (xa1 (xaK 103) (xa1 (xch true) xa8))))))
    (xa5 (sIf (xaP (xa3 6) (xai cEq (xaK 0))) (xa5 (xqZ (xa3 2) (xa3 4))
    xaC) xaC)
    xaC)) xaC)
    xaC))))
noncomputable def xcW : List PV → M PV := xaT 4 4 xeQ
noncomputable def xfw : xa6 → M (FR × xa6) :=
    (xa5 (xcy [3, 4] (xeJ (xa1 (xad xaF (xa1 (xa3 0) (xa1 (xaK 16) xa8))) (xa1 (xbG xda (xaK 1) (xad xaF (xa1 (xa3 0) (xa1 (xaK 5) xa8)))) xa8))))
    (xa5 (xb1 (xn9 3 xbq (xa3 1) (xa1 (xa3 3) (xa1 (xbG xda (xa3 3) (xa3 4)) xa8))))
    (xa5 (xeE 5 (xad xbY (xa1 (xa3 2) xa8)) (xa5 (xcy [6, 7, 8] (xbE (xa3 2) (xa3 5)))
    (xa5 (xcy [6, 7] (xdg [false, false, false, true, true, false, false, false, false] (xeJ (xa1 (xa3 6) (xa1 (xa3 7) xa8))) xbV (eIf (xaP (xa3 0) (xai cLe (xa3 4))) (xa3 0) (xad xhJ (xa1 (xa3 4) (xa1 (xbG xhc (xa3 0) (xa3 5)) xa8))))))
    (xa5 (xdR (xa3 2) (xa3 5) (xc8 (xa1 (xa3 6) (xa1 (xa3 7) (xa1 (xa3 8) xa8)))))
    (xa5 (sIf (xcK (xaP (xa3 6) (xbQ cEq (xa3 7) (xai cEq (xa3 3)))) (xcK (xbe (xa3 8)) xbV)) (xa5 (xqZ (xa3 2) (xa3 5))
    xaC) xaC)
    xaC)))))
    xaC)))
noncomputable def xdO : List PV → M PV := xaT 3 6 xfw
noncomputable def xeR : xa6 → M (FR × xa6) :=
    (xa5 (xcy [4, 5, 6] (xeJ (xa1 (xad xaF (xa1 (xa3 0) (xa1 (xad xgx (xa1 (xa3 3) xa8)) xa8))) (xa1 (xad xaF (xa1 (xa3 0) (xa1 (xaK 14) xa8))) (xa1 (xad xaF (xa1 (xa3 0) (xa1 (xaK 3) xa8))) xa8)))))
    (xa5 (xak 7 (xdY (xa9 xbK (xbE (xa3 3) (xa3 4))) (xai cNe (xc8 xa8))))
    (xa5 (xb1 (xad xc6 (xa1 (xbE (xa3 3) (xa3 4)) (xa1 (xa3 1) (xa1 (xa3 5) (xa1 (xbG xda (xa3 5) (xa3 6)) xa8))))))
    (xa5 (xdR (xa3 2) (xa3 4) (xc8 (xa1 (xa3 5) (xa1 (xbG xda (xa3 5) (xa3 6)) (xa1 (xa3 7) xa8)))))
    (xa5 (sIf (xcK (xaP (xa3 6) (xai cEq (xaK 0))) (xcK (xbe (xa3 7)) xbV)) (xa5 (xqZ (xa3 2) (xa3 4))
    xaC) xaC)
    xaC)))))
noncomputable def xcS : List PV → M PV := xaT 4 4 xeR
noncomputable def xcI : xa6 → M (FR × xa6) :=
    (xa5 (sIf (xaP (xbE (xa3 0) (xaK 0)) (xai cLt (xbE (xa3 0) (xaK 1)))) (xa5 (xcA (eOr (xdY (xdg [true, false, false, false] (xad xdE (xa1 (xa3 1) (xa1 (xa3 2) xa8))) (xaP (xbE (xa3 1) (xaK 0)) (xbQ cLe (xa3 0) (xai cLt (xbE (xa3 1) (xaK 1))))) (xa3 0)) (xai cNe (xc8 xa8))) (xdY (xbE (xa3 0) (xaK 0)) (xbQ cLt (xa3 1) (xbQ cEq (xa3 2) (xai cLt (xbE (xa3 0) (xaK 1))))))))
    xaC) xaC)
    (xa5 (xcA (eOr (xdY (xbE (xa3 0) (xaK 0)) (xai cEq (xa3 1))) (eOr (xdY (xa3 1) (xbQ cLt (xbE (xa3 0) (xaK 0)) (xai cLt (xa3 2)))) (xdY (xbE (xa3 0) (xaK 0)) (xbQ cEq (xa3 2) (xai cEq (xa3 3)))))))
    xaC))
noncomputable def xc1 : List PV → M PV := xaT 4 0 xcI
noncomputable def xfz : List PV → M PV := xhr 3 xdC
noncomputable def xh4 : List PV → M PV := xhr 4 xe6
noncomputable def xgT : List PV → M PV := xhr 5 xe4
noncomputable def xsJ : xa6 → M (FR × xa6) :=
    (xa5 (xak 1 (xc8 (xa1 (xdg [false, false, false, false, false, false, false, false, false, false, false, false, false, false] (xhQ 63 (xa3 0)) xbV (xad xsM (xa1 (xa3 0) xa8))) (xa1 (xaK 0) xa8))))
    (xa5 (xcy [2, 3, 4] (xeJ (xa1 (xad xfz (xa1 (xad xh4 (xa1 (xad xgT (xa1 (xaK 100) xa8)) xa8)) xa8)) (xa1 xkr (xa1 (xc8 xa8) xa8)))))
    (xa5 (xeE 5 (xad xdE (xa1 (xbG xda (xaK 1) (xad xaF (xa1 (xa3 1) (xa1 (xaK 6) xa8)))) xa8)) (xa5 (xb1 (xad xcW (xa1 (xa3 1) (xa1 (xa3 2) (xa1 (xa3 3) (xa1 (xa3 4) xa8))))))
    xaC))
    (xa5 (sIf (xaP (xad xaF (xa1 (xa3 1) (xa1 (xaK 3) xa8))) (xai cEq (xaK 1))) (xa5 (xb1 (xad xdO (xa1 (xa3 1) (xa1 (xa3 2) (xa1 (xa3 3) xa8)))))
    xaC) xaC)
    (xa5 (sIf (xaP (xad xaF (xa1 (xa3 1) (xa1 (xaK 3) xa8))) (xai cEq (xaK 1))) (xa5 (xb1 (xad xcS (xa1 (xa3 1) (xa1 (xa3 2) (xa1 (xa3 3) (xa1 (xa3 4) xa8))))))
    xaC) xaC)
    (xa5 (sIf (xaP (xad xbY (xa1 (xa9 xbf (xa3 2)) xa8)) (xai cNe (xad xbY (xa1 (xa3 3) xa8)))) (xa5 (xcA (xch false))
    xaC) xaC)
    (xa5 (xeE 6 (xa3 3) (xa5 (sIf (xaP (xc8 (xa1 (xad xbt (xa1 (xbE (xa3 4) (xa3 6)) xa8)) (xa1 (xad xbR (xa1 (xbE (xa3 4) (xa3 6)) xa8)) xa8))) (xai cNe (xhQ 2 (xbE (xa3 3) (xa3 6))))) (xa5 (xcA (xch false))
    xaC) xaC)
    xaC))
    (xa5 (xcy [7, 8] (xeJ (xa1 (xad xaF (xa1 (xa3 1) (xa1 (xaK 16) xa8))) (xa1 (xad xaF (xa1 (xa3 1) (xa1 (xaK 16) xa8))) xa8))))
    (xa5 (xcy [9, 10] (xeJ (xa1 (xbG xda (xa3 8) (xad xaF (xa1 (xa3 1) (xa1 (xbG xhc (xaK 17) (xa3 8)) xa8)))) (xa1 (xbG xhc (xaK 16) (xad xaF (xa1 (xa3 1) (xa1 (xaK 2) xa8)))) xa8))))
    (xa5 (sIf (xaP (xad xbY (xa1 (xdg [false, false, false, false, false, false, false, false, false, false, false, false, false, false] (xad xcH (xa1 (xa3 2) (xa1 (xa3 7) xa8))) xbV (xa9 xb6 (xa3 0))) xa8)) (xai cNe (xdg [false, false, false, true, false, false, false, true, false, false, false, false, false, false] (xad xbY (xa1 (xa3 3) xa8)) (xaP (xbE (xbE (xa3 4) (xa3 0)) (xaK 0)) (xbQ cLe (xa3 8) (xai cLt (xbE (xbE (xa3 4) (xa3 0)) (xaK 1))))) (xa3 0)))) (xa5 (xcA (xch false))
    xaC) xaC)
    (xa5 (sIf (xaP (xad xbY (xa1 (xdg [false, false, false, false, false, false, false, false, false, false, false, false, false, false] (xad xcE (xa1 (xa3 2) (xa1 (xa3 8) (xa1 (xa3 9) (xa1 (xa3 10) xa8))))) xbV (xa9 xb6 (xa3 0))) xa8)) (xai cNe (xdg [false, false, false, true, false, false, false, false, true, true, true, false, false, false] (xad xbY (xa1 (xa3 3) xa8)) (xbe (xad xc1 (xa1 (xbE (xa3 4) (xa3 0)) (xa1 (xa3 9) (xa1 (xa3 10) (xa1 (xa3 11) xa8)))))) (xa3 0)))) (xa5 (xcA (xch false))
    xaC) xaC)
    (xa5 (xak 11 (xc8 xa8))
    (xa5 (xeE 6 (xa3 3) (xa5 (xb1 (xcs isL xjC (xa3 11) (xhQ 2 (xbE (xa3 3) (xa3 6)))))
    xaC))
    (xa5 (xcy [12, 13] (xeJ (xa1 (xdg [false, false, false, false, false, false, false, true, false, false, false, false, false, false] (xa3 11) (xaP (xa3 8) (xbQ cLt (xa3 0) (xai cLt (xaK 16)))) (xa3 0)) (xa1 (xdg [false, false, false, false, false, false, false, true, false, false, false, false, false, false] (xa3 11) (xaP (xaK 0) (xbQ cLt (xa3 0) (xai cLt (xa3 8)))) (xa3 0)) xa8))))
    (xa5 (xcA (xdY (xc8 (xa1 (xad xbs (xa1 (xa3 2) (xa1 (xa3 7) (xa1 (xaK 16) xa8)))) (xa1 (xad xbg (xa1 (xa3 2) (xa1 (xa3 7) (xa1 (xaK 0) xa8)))) xa8))) (xai cEq (xc8 (xa1 (xad xnl (xa1 (xbG xpl (xa3 12) (xc8 (xa1 (xaK 16) xa8))) xa8)) (xa1 (xad xnv (xa1 (xbG xpl (xa3 13) (xc8 (xa1 (xaK 0) xa8))) xa8)) xa8))))))
    xaC)))))))))))))))
end
end Mine
open PySem PySem.W PyProof.Rows in
open_top hd for PySem.Challenge.rw_np0092_01
namespace Mine
section
open PySem PySem.W PyProof.Rows PySem.Calls
def xtn : Nat → Addr
  | 0 => 38
  | 1 => 59
  | 2 => 290
  | 3 => 339
  | 4 => 262
  | 5 => 516
  | _ => 0
structure Std (S : xfo) : Prop where
  K : S.K = hd.heap_39 S.w.params
  flds : S.flds = xpA
  cadr : S.cadr = xtn
variable {S : xfo}
theorem xbL {x : Str} : xcN S x [] := fun c k h => by cases h
theorem xbi {x : Str} {c k : Nat} {t} (h : xoU S x c k) (r : xcN S x t) : xcN S x ((c, k) :: t) := fun c' k' e => by
  rw [List.lookup_cons] at e
  cases q : c' == c with
  | true => rw [q] at e; cases e; rw [beq_iff_eq.mp q]; exact h
  | false => rw [q] at e; exact r c' k' e
theorem xpH (hS : Std S) : xmY S 0 := ⟨by rw [hS.K, hS.cadr]; rfl, by rw [hS.K, hS.cadr]; rfl, by rw [hS.K, hS.cadr]; rfl, by rw [hS.K, hS.cadr]; rfl⟩
theorem xu9 (hS : Std S) : xmY S 1 := ⟨by rw [hS.K, hS.cadr]; rfl, by rw [hS.K, hS.cadr]; rfl, by rw [hS.K, hS.cadr]; rfl, by rw [hS.K, hS.cadr]; rfl⟩
theorem xtL (hS : Std S) : xmY S 2 := ⟨by rw [hS.K, hS.cadr]; rfl, by rw [hS.K, hS.cadr]; rfl, by rw [hS.K, hS.cadr]; rfl, by rw [hS.K, hS.cadr]; rfl⟩
theorem xtG (hS : Std S) : xmY S 3 := ⟨by rw [hS.K, hS.cadr]; rfl, by rw [hS.K, hS.cadr]; rfl, by rw [hS.K, hS.cadr]; rfl, by rw [hS.K, hS.cadr]; rfl⟩
theorem xqx (hS : Std S) : xmY S 4 := ⟨by rw [hS.K, hS.cadr]; rfl, by rw [hS.K, hS.cadr]; rfl, by rw [hS.K, hS.cadr]; rfl, by rw [hS.K, hS.cadr]; rfl⟩
theorem xty (hS : Std S) : xmY S 5 := ⟨by rw [hS.K, hS.cadr]; rfl, by rw [hS.K, hS.cadr]; rfl, by rw [hS.K, hS.cadr]; rfl, by rw [hS.K, hS.cadr]; rfl⟩
theorem xbT (hS : Std S) : xcN S "begin" xal := (xbi ⟨xpH hS, by rw [hS.flds]; rfl, by rw [hS.K, hS.cadr]; rfl⟩ xbL)
theorem xjN (hS : Std S) : xcN S "category" xcR := (xbi ⟨xqx hS, by rw [hS.flds]; rfl, by rw [hS.K, hS.cadr]; rfl⟩ xbL)
theorem xhB (hS : Std S) : xcN S "count" xcu := (xbi ⟨xu9 hS, by rw [hS.flds]; rfl, by rw [hS.K, hS.cadr]; rfl⟩ xbL)
theorem xnE (hS : Std S) : xcN S "defaults" xha := (xbi ⟨xqx hS, by rw [hS.flds]; rfl, by rw [hS.K, hS.cadr]; rfl⟩ xbL)
theorem xdB (hS : Std S) : xcN S "end" xaI := (xbi ⟨xpH hS, by rw [hS.flds]; rfl, by rw [hS.K, hS.cadr]; rfl⟩ xbL)
theorem xgk (hS : Std S) : xcN S "evaporate" xbH := (xbi ⟨xqx hS, by rw [hS.flds]; rfl, by rw [hS.K, hS.cadr]; rfl⟩ xbL)
theorem xoF (hS : Std S) : xcN S "first" xhD := (xbi ⟨xty hS, by rw [hS.flds]; rfl, by rw [hS.K, hS.cadr]; rfl⟩ xbL)
theorem xip (hS : Std S) : xcN S "front_advance" xdb := (xbi ⟨xpH hS, by rw [hS.flds]; rfl, by rw [hS.K, hS.cadr]; rfl⟩ xbL)
theorem xjz (hS : Std S) : xcN S "front_sticky" xep := (xbi ⟨xqx hS, by rw [hS.flds]; rfl, by rw [hS.K, hS.cadr]; rfl⟩ xbL)
theorem xh1 (hS : Std S) : xcN S "home" xbn := (xbi ⟨xtL hS, by rw [hS.flds]; rfl, by rw [hS.K, hS.cadr]; rfl⟩ xbL)
theorem xbk (hS : Std S) : xcN S "is_red" xan := (xbi ⟨xpH hS, by rw [hS.flds]; rfl, by rw [hS.K, hS.cadr]; rfl⟩ xbL)
theorem xby (hS : Std S) : xcN S "left" xat := (xbi ⟨xpH hS, by rw [hS.flds]; rfl, by rw [hS.K, hS.cadr]; rfl⟩ xbL)
theorem xcf (hS : Std S) : xcN S "limit" xaA := (xbi ⟨xpH hS, by rw [hS.flds]; rfl, by rw [hS.K, hS.cadr]; rfl⟩ xbL)
theorem xsn (hS : Std S) : xcN S "lisp" xnp := (xbi ⟨xqx hS, by rw [hS.flds]; rfl, by rw [hS.K, hS.cadr]; rfl⟩ xbL)
theorem xmg (hS : Std S) : xcN S "nil" xf4 := (xbi ⟨xqx hS, by rw [hS.flds]; rfl, by rw [hS.K, hS.cadr]; rfl⟩ (xbi ⟨xty hS, by rw [hS.flds]; rfl, by rw [hS.K, hS.cadr]; rfl⟩ xbL))
theorem xeu (hS : Std S) : xcN S "node" xb9 := (xbi ⟨xtL hS, by rw [hS.flds]; rfl, by rw [hS.K, hS.cadr]; rfl⟩ xbL)
theorem xej (hS : Std S) : xcN S "number" xb6 := (xbi ⟨xpH hS, by rw [hS.flds]; rfl, by rw [hS.K, hS.cadr]; rfl⟩ (xbi ⟨xtL hS, by rw [hS.flds]; rfl, by rw [hS.K, hS.cadr]; rfl⟩ xbL))
theorem xcx (hS : Std S) : xcN S "offset" xay := (xbi ⟨xpH hS, by rw [hS.flds]; rfl, by rw [hS.K, hS.cadr]; rfl⟩ xbL)
theorem xeA (hS : Std S) : xcN S "overlays" xbf := (xbi ⟨xtG hS, by rw [hS.flds]; rfl, by rw [hS.K, hS.cadr]; rfl⟩ xbL)
theorem xbr (hS : Std S) : xcN S "parent" xau := (xbi ⟨xpH hS, by rw [hS.flds]; rfl, by rw [hS.K, hS.cadr]; rfl⟩ xbL)
theorem xgC (hS : Std S) : xcN S "plist" xbK := (xbi ⟨xtL hS, by rw [hS.flds]; rfl, by rw [hS.K, hS.cadr]; rfl⟩ xbL)
theorem xpu (hS : Std S) : xcN S "plists" xj1 := (xbi ⟨xty hS, by rw [hS.flds]; rfl, by rw [hS.K, hS.cadr]; rfl⟩ xbL)
theorem xnV (hS : Std S) : xcN S "priority" xhb := (xbi ⟨xqx hS, by rw [hS.flds]; rfl, by rw [hS.K, hS.cadr]; rfl⟩ xbL)
theorem xjJ (hS : Std S) : xcN S "rear_advance" xdq := (xbi ⟨xpH hS, by rw [hS.flds]; rfl, by rw [hS.K, hS.cadr]; rfl⟩ xbL)
theorem xhL (hS : Std S) : xcN S "rear_nonsticky" xdS := (xbi ⟨xqx hS, by rw [hS.flds]; rfl, by rw [hS.K, hS.cadr]; rfl⟩ xbL)
theorem xbj (hS : Std S) : xcN S "right" xaf := (xbi ⟨xpH hS, by rw [hS.flds]; rfl, by rw [hS.K, hS.cadr]; rfl⟩ xbL)
theorem xff (hS : Std S) : xcN S "root" xbh := (xbi ⟨xu9 hS, by rw [hS.flds]; rfl, by rw [hS.K, hS.cadr]; rfl⟩ xbL)
theorem xiL (hS : Std S) : xcN S "rules" xc9 := (xbi ⟨xtG hS, by rw [hS.flds]; rfl, by rw [hS.K, hS.cadr]; rfl⟩ xbL)
theorem xfN (hS : Std S) : xcN S "tree" xbv := (xbi ⟨xtG hS, by rw [hS.flds]; rfl, by rw [hS.K, hS.cadr]; rfl⟩ xbL)
theorem xni (hS : Std S) : xcN S "true" xh0 := (xbi ⟨xqx hS, by rw [hS.flds]; rfl, by rw [hS.K, hS.cadr]; rfl⟩ (xbi ⟨xty hS, by rw [hS.flds]; rfl, by rw [hS.K, hS.cadr]; rfl⟩ xbL))
theorem xe8 (hS : Std S) : nsIn S.K mainGlobals "isinstance" = some none := by rw [hS.K]; rfl
theorem xkX (hS : Std S) : nsIn S.K mainGlobals "bool" = some none := by rw [hS.K]; rfl
theorem xqH (hS : Std S) : nsIn S.K mainGlobals "NAMES" = some (some (.ref 450)) := by rw [hS.K]; rfl
theorem xrb (hS : Std S) : S.K.lookup 450 = some ⟨.type "tuple", none, .seq xof 0, #[]⟩ := by rw [hS.K]; rfl
theorem xi8 (hS : Std S) : GBn S 0 "len" xgx := ⟨.builtin "len", by rw [hS.K]; rfl, by decide +kernel, by decide +kernel, .inl ⟨_, rfl⟩, xtP⟩
theorem xsZ (hS : Std S) : GBn S 0 "abs" xsM := ⟨.builtin "abs", by rw [hS.K]; rfl, by decide +kernel, by decide +kernel, .inl ⟨_, rfl⟩, xu7⟩
theorem xlA (hS : Std S) : GBn S 0 "range" xdE := ⟨.type "range", by rw [hS.K]; rfl, by decide +kernel, by decide +kernel, .inr ⟨_, rfl⟩, xsr⟩
theorem xel (hS : Std S) : GBn S 0 "sorted" xbY := ⟨.builtin "sorted", by rw [hS.K]; rfl, by decide +kernel, by decide +kernel, .inl ⟨_, rfl⟩, xrl⟩
theorem xhN (hS : Std S) : GBn S 0 "max" xhJ := ⟨.builtin "max", by rw [hS.K]; rfl, by decide +kernel, by decide +kernel, .inl ⟨_, rfl⟩, xu2⟩
theorem xnX (hS : Std S) : GBn S 0 "min" xpk := ⟨.builtin "min", by rw [hS.K]; rfl, by decide +kernel, by decide +kernel, .inl ⟨_, rfl⟩, xu6⟩
theorem xsq (hS : Std S) : GBn S 0 "max" xnv := ⟨.builtin "max", by rw [hS.K]; rfl, by decide +kernel, by decide +kernel, .inl ⟨_, rfl⟩, xtx⟩
theorem xsv (hS : Std S) : GBn S 0 "min" xnl := ⟨.builtin "min", by rw [hS.K]; rfl, by decide +kernel, by decide +kernel, .inl ⟨_, rfl⟩, xtA⟩
def xfM : Gn := ⟨[], []⟩
def xfu : List Str := ["self", "number", "begin", "end", "front_advance", "rear_advance"]
theorem xfp (hS : Std S) : SB S 0 xfM xfu (xbd (hd.heap_39 S.w.params) 35) xcO :=
    (xa4 (xab xb6 (xej hS) (xa0 0) (xa0 1))
    (xa4 (xab xal (xbT hS) (xa0 0) (xa0 2))
    (xa4 (xab xaI (xdB hS) (xa0 0) (xa0 3))
    (xa4 (xab xdb (xip hS) (xa0 0) (xa0 4))
    (xa4 (xab xdq (xjJ hS) (xa0 0) (xa0 5))
    (xa4 (xab xaA (xcf hS) (xa0 0) (xa0 3))
    (xa4 (xab xay (xcx hS) (xa0 0) xaH)
    (xa4 (xab xan (xbk hS) (xa0 0) xbZ)
    (xa4 (xab xat (xby hS) (xa0 0) xb4)
    (xa4 (xab xaf (xbj hS) (xa0 0) xb4)
    (xa4 (xab xau (xbr hS) (xa0 0) xb4)
    xae)))))))))))
theorem xfX (hS : Std S) : xdd S 1 (.ref 35) xcM :=
  xaS (np := 6) (scope := xaJ (hd.heap_39 S.w.params) 35) ⟨_, _, _, _, _, _, _, _, _, _, _, by rw [hS.K]; rfl, by rw [hS.K]; rfl, fun vals h => by
    match vals, h with
    | [a0, a1, a2, a3, a4, a5], _ => rfl⟩ (by rfl) (xfp hS)
def xfO : Gn := ⟨[], []⟩
def xfF : List Str := ["self"]
theorem xfK (hS : Std S) : SB S 0 xfO xfF (xbd (hd.heap_39 S.w.params) 56) xdz :=
    (xa4 (xab xbh (xff hS) (xa0 0) xb4)
    (xa4 (xab xcu (xhB hS) (xa0 0) xaH)
    xae))
theorem xfW (hS : Std S) : xdd S 1 (.ref 56) xdA :=
  xaS (np := 1) (scope := xaJ (hd.heap_39 S.w.params) 56) ⟨_, _, _, _, _, _, _, _, _, _, _, by rw [hS.K]; rfl, by rw [hS.K]; rfl, fun vals h => by
    match vals, h with
    | [a0], _ => rfl⟩ (by rfl) (xfK hS)
def xmQ : Gn := ⟨[], []⟩
def xn3 : List Str := ["node", "son"]
theorem xme (hS : Std S) : SB S 0 xmQ xn3 (xbd (hd.heap_39 S.w.params) 70) xfD :=
    (xa4 (xbM (xaQ (xac xay (xcx hS) (xa0 0)) (xax xdK xaH)) (xa4 xjv
    xae) xae)
    (xa4 (xab xal (xbT hS) (xa0 0) (xbS xdt (xac xal (xbT hS) (xa0 0)) (xac xay (xcx hS) (xa0 0))))
    (xa4 (xab xaI (xdB hS) (xa0 0) (xbS xdt (xac xaI (xdB hS) (xa0 0)) (xac xay (xcx hS) (xa0 0))))
    (xa4 (xab xaA (xcf hS) (xa0 0) (xbS xdt (xac xaA (xcf hS) (xa0 0)) (xac xay (xcx hS) (xa0 0))))
    (xa4 (xf1 1 (xey (xa2 (xac xat (xby hS) (xa0 0)) (xa2 (xac xaf (xbj hS) (xa0 0)) xaa))) (xa4 (xbM (xaQ (xa0 1) (xax xbF xb4)) (xa4 (xab xay (xcx hS) (xa0 1) (xbS xdt (xac xay (xcx hS) (xa0 1)) (xac xay (xcx hS) (xa0 0))))
    xae) xae)
    xae))
    (xa4 (xab xay (xcx hS) (xa0 0) xaH)
    xae))))))
theorem xnd (hS : Std S) : xdd S 1 (.ref 70) xba :=
  xaS (np := 1) (scope := xaJ (hd.heap_39 S.w.params) 70) ⟨_, _, _, _, _, _, _, _, _, _, _, by rw [hS.K]; rfl, by rw [hS.K]; rfl, fun vals h => by
    match vals, h with
    | [a0], _ => rfl⟩ (by rfl) (xme hS)
theorem xcn (hS : Std S) : GFn S 1 "hand_down" xba := ⟨.ref 70, by rw [hS.K]; rfl, by rw [hS.K]; rfl, xnd hS⟩
def xjL : Gn := ⟨["hand_down"], []⟩
def xiW : List Str := ["node", "path", "here"]
theorem xiV (hS : Std S) : SB S 1 xjL xiW (xbd (hd.heap_39 S.w.params) 77) xfc :=
    (xa4 (xaz 1 (xcD xaa))
    (xa4 (xfd (xaQ (xa0 0) (xax xbF xb4)) (xa4 (xaU (xet PySem.F.slot_list_append PySem.F.type_list_append xgy (xa0 1) (xa0 0)))
    (xa4 (xaz 0 (xac xau (xbr hS) (xa0 0)))
    xae)))
    (xa4 (xf1 2 (xtu (xa0 1)) (xa4 (xaU (xas (xcn hS) (xar 0) (xa2 (xa0 2) xaa)))
    xae))
    xae)))
theorem xjT (hS : Std S) : xdd S 2 (.ref 77) xcl :=
  xaS (np := 1) (scope := xaJ (hd.heap_39 S.w.params) 77) ⟨_, _, _, _, _, _, _, _, _, _, _, by rw [hS.K]; rfl, by rw [hS.K]; rfl, fun vals h => by
    match vals, h with
    | [a0], _ => rfl⟩ (by rfl) (xiV hS)
theorem xfe (hS : Std S) : GFn S 2 "hand_down_to" xcl := ⟨.ref 77, by rw [hS.K]; rfl, by rw [hS.K]; rfl, xjT hS⟩
def xj4 : Gn := ⟨["max"], []⟩
def xjd : List Str := ["node", "found", "son"]
theorem xjM (hS : Std S) : SB S 0 xj4 xjd (xbd (hd.heap_39 S.w.params) 84) xcm :=
    (xa4 (xaz 1 (xac xaI (xdB hS) (xa0 0)))
    (xa4 (xf1 2 (xey (xa2 (xac xat (xby hS) (xa0 0)) (xa2 (xac xaf (xbj hS) (xa0 0)) xaa))) (xa4 (xbM (xaQ (xa0 2) (xax xbF xb4)) (xa4 (xaz 1 (xbl (xhN hS) (xar 0) (xa2 (xa0 1) (xa2 (xbS xdt (xac xaA (xcf hS) (xa0 2)) (xac xay (xcx hS) (xa0 2))) xaa))))
    xae) xae)
    xae))
    (xa4 (xbB (xa0 1))
    xae)))
theorem xjW (hS : Std S) : xdd S 1 (.ref 84) xaZ :=
  xaS (np := 1) (scope := xaJ (hd.heap_39 S.w.params) 84) ⟨_, _, _, _, _, _, _, _, _, _, _, by rw [hS.K]; rfl, by rw [hS.K]; rfl, fun vals h => by
    match vals, h with
    | [a0], _ => rfl⟩ (by rfl) (xjM hS)
theorem xck (hS : Std S) : GFn S 1 "greatest_end" xaZ := ⟨.ref 84, by rw [hS.K]; rfl, by rw [hS.K]; rfl, xjW hS⟩
def xjt : Gn := ⟨["greatest_end"], []⟩
def xjD : List Str := ["node", "limit"]
theorem xj7 (hS : Std S) : SB S 1 xjt xjD (xbd (hd.heap_39 S.w.params) 91) xdU :=
    (xa4 (xfd (xaQ (xa0 0) (xax xbF xb4)) (xa4 (xaz 1 (xas (xck hS) (xar 0) (xa2 (xa0 0) xaa)))
    (xa4 (xbM (xaQ (xa0 1) (xax xdK (xac xaA (xcf hS) (xa0 0)))) (xa4 xjv
    xae) xae)
    (xa4 (xab xaA (xcf hS) (xa0 0) (xa0 1))
    (xa4 (xaz 0 (xac xau (xbr hS) (xa0 0)))
    xae)))))
    xae)
theorem xk9 (hS : Std S) : xdd S 2 (.ref 91) xcJ :=
  xaS (np := 1) (scope := xaJ (hd.heap_39 S.w.params) 91) ⟨_, _, _, _, _, _, _, _, _, _, _, by rw [hS.K]; rfl, by rw [hS.K]; rfl, fun vals h => by
    match vals, h with
    | [a0], _ => rfl⟩ (by rfl) (xj7 hS)
theorem xk7 (hS : Std S) : GFn S 2 "renew_limits" xcJ := ⟨.ref 91, by rw [hS.K]; rfl, by rw [hS.K]; rfl, xk9 hS⟩
def xrT : Gn := ⟨[], []⟩
def xse : List Str := ["tree", "parent", "node", "other"]
theorem xsB (hS : Std S) : SB S 0 xrT xse (xbd (hd.heap_39 S.w.params) 98) xpW :=
    (xa4 (xbM (xaQ (xa0 1) (xax xio xb4)) (xa4 (xab xbh (xff hS) (xa0 0) (xa0 3))
    xae) (xa4 (xbM (xaQ (xac xat (xby hS) (xa0 1)) (xax xio (xa0 2))) (xa4 (xab xat (xby hS) (xa0 1) (xa0 3))
    xae) (xa4 (xab xaf (xbj hS) (xa0 1) (xa0 3))
    xae))
    xae))
    (xa4 (xbM (xaQ (xa0 3) (xax xbF xb4)) (xa4 (xab xau (xbr hS) (xa0 3) (xa0 1))
    xae) xae)
    xae))
theorem xtj (hS : Std S) : xdd S 1 (.ref 98) xjo :=
  xaS (np := 4) (scope := xaJ (hd.heap_39 S.w.params) 98) ⟨_, _, _, _, _, _, _, _, _, _, _, by rw [hS.K]; rfl, by rw [hS.K]; rfl, fun vals h => by
    match vals, h with
    | [a0, a1, a2, a3], _ => rfl⟩ (by rfl) (xsB hS)
theorem xoQ (hS : Std S) : GFn S 1 "hang" xjo := ⟨.ref 98, by rw [hS.K]; rfl, by rw [hS.K]; rfl, xtj hS⟩
def xmG : Gn := ⟨["hand_down", "hang", "greatest_end"], []⟩
def xmS : List Str := ["tree", "node", "son"]
theorem xm3 (hS : Std S) : SB S 1 xmG xmS (xbd (hd.heap_39 S.w.params) 105) xgS :=
    (xa4 (xaz 2 (xac xaf (xbj hS) (xa0 1)))
    (xa4 (xaU (xas (xcn hS) (xar 0) (xa2 (xa0 1) xaa)))
    (xa4 (xaU (xas (xcn hS) (xar 0) (xa2 (xa0 2) xaa)))
    (xa4 (xab xaf (xbj hS) (xa0 1) (xac xat (xby hS) (xa0 2)))
    (xa4 (xbM (xaQ (xac xat (xby hS) (xa0 2)) (xax xbF xb4)) (xa4 (xab xau (xbr hS) (xac xat (xby hS) (xa0 2)) (xa0 1))
    xae) xae)
    (xa4 (xaU (xas (xoQ hS) (xar 1) (xa2 (xa0 0) (xa2 (xac xau (xbr hS) (xa0 1)) (xa2 (xa0 1) (xa2 (xa0 2) xaa))))))
    (xa4 (xab xat (xby hS) (xa0 2) (xa0 1))
    (xa4 (xab xau (xbr hS) (xa0 1) (xa0 2))
    (xa4 (xab xaA (xcf hS) (xa0 1) (xas (xck hS) (xar 2) (xa2 (xa0 1) xaa)))
    (xa4 (xab xaA (xcf hS) (xa0 2) (xas (xck hS) (xar 2) (xa2 (xa0 2) xaa)))
    xae))))))))))
theorem xny (hS : Std S) : xdd S 2 (.ref 105) xdP :=
  xaS (np := 2) (scope := xaJ (hd.heap_39 S.w.params) 105) ⟨_, _, _, _, _, _, _, _, _, _, _, by rw [hS.K]; rfl, by rw [hS.K]; rfl, fun vals h => by
    match vals, h with
    | [a0, a1], _ => rfl⟩ (by rfl) (xm3 hS)
theorem xh3 (hS : Std S) : GFn S 2 "turn_left" xdP := ⟨.ref 105, by rw [hS.K]; rfl, by rw [hS.K]; rfl, xny hS⟩
def xkM : Gn := ⟨["hand_down", "hang", "greatest_end"], []⟩
def xlt : List Str := ["tree", "node", "son"]
theorem xlv (hS : Std S) : SB S 1 xkM xlt (xbd (hd.heap_39 S.w.params) 112) xgg :=
    (xa4 (xaz 2 (xac xat (xby hS) (xa0 1)))
    (xa4 (xaU (xas (xcn hS) (xar 0) (xa2 (xa0 1) xaa)))
    (xa4 (xaU (xas (xcn hS) (xar 0) (xa2 (xa0 2) xaa)))
    (xa4 (xab xat (xby hS) (xa0 1) (xac xaf (xbj hS) (xa0 2)))
    (xa4 (xbM (xaQ (xac xaf (xbj hS) (xa0 2)) (xax xbF xb4)) (xa4 (xab xau (xbr hS) (xac xaf (xbj hS) (xa0 2)) (xa0 1))
    xae) xae)
    (xa4 (xaU (xas (xoQ hS) (xar 1) (xa2 (xa0 0) (xa2 (xac xau (xbr hS) (xa0 1)) (xa2 (xa0 1) (xa2 (xa0 2) xaa))))))
    (xa4 (xab xaf (xbj hS) (xa0 2) (xa0 1))
    (xa4 (xab xau (xbr hS) (xa0 1) (xa0 2))
    (xa4 (xab xaA (xcf hS) (xa0 1) (xas (xck hS) (xar 2) (xa2 (xa0 1) xaa)))
    (xa4 (xab xaA (xcf hS) (xa0 2) (xas (xck hS) (xar 2) (xa2 (xa0 2) xaa)))
    xae))))))))))
theorem xmO (hS : Std S) : xdd S 2 (.ref 112) xdj :=
  xaS (np := 2) (scope := xaJ (hd.heap_39 S.w.params) 112) ⟨_, _, _, _, _, _, _, _, _, _, _, by rw [hS.K]; rfl, by rw [hS.K]; rfl, fun vals h => by
    match vals, h with
    | [a0, a1], _ => rfl⟩ (by rfl) (xlv hS)
theorem xgj (hS : Std S) : GFn S 2 "turn_right" xdj := ⟨.ref 112, by rw [hS.K]; rfl, by rw [hS.K]; rfl, xmO hS⟩
def xqf : Gn := ⟨[], []⟩
def xqe : List Str := ["node"]
theorem xpO (hS : Std S) : SB S 0 xqf xqe (xbd (hd.heap_39 S.w.params) 119) xlJ :=
    (xa4 (xbB (xkw (xcX (xa0 0) (xax xbF xb4)) (xf2 (xac xan (xbk hS) (xa0 0)))))
    xae)
theorem xra (hS : Std S) : xdd S 1 (.ref 119) xdW :=
  xaS (np := 1) (scope := xaJ (hd.heap_39 S.w.params) 119) ⟨_, _, _, _, _, _, _, _, _, _, _, by rw [hS.K]; rfl, by rw [hS.K]; rfl, fun vals h => by
    match vals, h with
    | [a0], _ => rfl⟩ (by rfl) (xpO hS)
theorem xfA (hS : Std S) : GFn S 1 "is_red" xdW := ⟨.ref 119, by rw [hS.K]; rfl, by rw [hS.K]; rfl, xra hS⟩
def xih : Gn := ⟨["turn_left", "turn_right"], []⟩
def xis : List Str := ["tree", "node", "is_left", "parent"]
theorem xig (hS : Std S) : SB S 2 xih xis (xbd (hd.heap_39 S.w.params) 133) xez :=
    (xa4 (xaz 3 (xac xau (xbr hS) (xa0 1)))
    (xa4 (xbM (xcw (xbm (xa0 2)) (xcw (xaQ (xac xaf (xbj hS) (xa0 3)) (xax xio (xa0 1))) xdJ)) (xa4 (xaU (xas (xh3 hS) (xar 0) (xa2 (xa0 0) (xa2 (xa0 3) xaa))))
    (xa4 (xbB (xa0 3))
    xae)) xae)
    (xa4 (xbM (xcw (xja (xbm (xa0 2))) (xcw (xaQ (xac xat (xby hS) (xa0 3)) (xax xio (xa0 1))) xdJ)) (xa4 (xaU (xas (xgj hS) (xar 1) (xa2 (xa0 0) (xa2 (xa0 3) xaa))))
    (xa4 (xbB (xa0 3))
    xae)) xae)
    (xa4 (xbB (xa0 1))
    xae))))
theorem xjf (hS : Std S) : xdd S 3 (.ref 133) xdp :=
  xaS (np := 3) (scope := xaJ (hd.heap_39 S.w.params) 133) ⟨_, _, _, _, _, _, _, _, _, _, _, by rw [hS.K]; rfl, by rw [hS.K]; rfl, fun vals h => by
    match vals, h with
    | [a0, a1, a2], _ => rfl⟩ (by rfl) (xig hS)
theorem xjq (hS : Std S) : GFn S 3 "turned_inward" xdp := ⟨.ref 133, by rw [hS.K]; rfl, by rw [hS.K]; rfl, xjf hS⟩
def xhp : Gn := ⟨["is_red", "turned_inward", "turn_right", "turn_left"], []⟩
def xhi : List Str := ["tree", "node", "parent", "above", "is_left", "uncle"]
theorem xhq (hS : Std S) : SB S 3 xhp xhi (xbd (hd.heap_39 S.w.params) 126) xdN :=
    (xa4 (xfd (xbm (xas (xfA hS) (xar 0) (xa2 (xac xau (xbr hS) (xa0 1)) xaa))) (xa4 (xaz 2 (xac xau (xbr hS) (xa0 1)))
    (xa4 (xaz 3 (xac xau (xbr hS) (xa0 2)))
    (xa4 (xaz 4 (xcX (xac xat (xby hS) (xa0 3)) (xax xio (xa0 2))))
    (xa4 (xaz 5 (xiD (xbm (xa0 4)) (xac xaf (xbj hS) (xa0 3)) (xac xat (xby hS) (xa0 3))))
    (xa4 (xbM (xbm (xas (xfA hS) (xar 0) (xa2 (xa0 5) xaa))) (xa4 (xab xan (xbk hS) (xa0 2) xbZ)
    (xa4 (xab xan (xbk hS) (xa0 5) xbZ)
    (xa4 (xab xan (xbk hS) (xa0 3) xbZ)
    (xa4 (xaz 1 (xa0 3))
    xae)))) (xa4 (xaz 1 (xas (xjq hS) (xar 1) (xa2 (xa0 0) (xa2 (xa0 1) (xa2 (xa0 4) xaa)))))
    (xa4 (xab xan (xbk hS) (xac xau (xbr hS) (xa0 1)) xbZ)
    (xa4 (xab xan (xbk hS) (xa0 3) xbZ)
    (xa4 (xbM (xbm (xa0 4)) (xa4 (xaU (xas (xgj hS) (xar 2) (xa2 (xa0 0) (xa2 (xa0 3) xaa))))
    xae) (xa4 (xaU (xas (xh3 hS) (xar 3) (xa2 (xa0 0) (xa2 (xa0 3) xaa))))
    xae))
    xae)))))
    xae))))))
    (xa4 (xab xan (xbk hS) (xac xbh (xff hS) (xa0 0)) xbZ)
    xae))
theorem xhT (hS : Std S) : xdd S 4 (.ref 126) xbU :=
  xaS (np := 2) (scope := xaJ (hd.heap_39 S.w.params) 126) ⟨_, _, _, _, _, _, _, _, _, _, _, by rw [hS.K]; rfl, by rw [hS.K]; rfl, fun vals h => by
    match vals, h with
    | [a0, a1], _ => rfl⟩ (by rfl) (xhq hS)
theorem xi0 (hS : Std S) : GFn S 4 "colour_inserted" xbU := ⟨.ref 126, by rw [hS.K]; rfl, by rw [hS.K]; rfl, xhT hS⟩
def xnN : Gn := ⟨["hand_down", "max", "colour_inserted"], []⟩
def xo9 : List Str := ["tree", "node", "here", "parent", "is_left"]
theorem xnC (hS : Std S) : SB S 4 xnN xo9 (xbd (hd.heap_39 S.w.params) 140) xgF :=
    (xa4 (xab xcu (xhB hS) (xa0 0) (xbS xdt (xac xcu (xhB hS) (xa0 0)) xaH))
    (xa4 (xab xat (xby hS) (xa0 1) xb4)
    (xa4 (xab xaf (xbj hS) (xa0 1) xb4)
    (xa4 (xab xau (xbr hS) (xa0 1) xb4)
    (xa4 (xab xay (xcx hS) (xa0 1) xaH)
    (xa4 (xab xaA (xcf hS) (xa0 1) (xac xaI (xdB hS) (xa0 1)))
    (xa4 (xbM (xaQ (xac xbh (xff hS) (xa0 0)) (xax xio xb4)) (xa4 (xab xan (xbk hS) (xa0 1) xbZ)
    (xa4 (xab xbh (xff hS) (xa0 0) (xa0 1))
    (xa4 xjv
    xae))) xae)
    (xa4 (xaz 2 (xac xbh (xff hS) (xa0 0)))
    (xa4 (xaz 3 xb4)
    (xa4 (xaz 4 xbZ)
    (xa4 (xfd (xaQ (xa0 2) (xax xbF xb4)) (xa4 (xaU (xas (xcn hS) (xar 0) (xa2 (xa0 2) xaa)))
    (xa4 (xab xaA (xcf hS) (xa0 2) (xbl (xhN hS) (xar 1) (xa2 (xac xaA (xcf hS) (xa0 2)) (xa2 (xac xaI (xdB hS) (xa0 1)) xaa))))
    (xa4 (xaz 3 (xa0 2))
    (xa4 (xaz 4 (xcX (xac xal (xbT hS) (xa0 1)) (xax xl5 (xac xal (xbT hS) (xa0 2)))))
    (xa4 (xaz 2 (xiD (xbm (xa0 4)) (xac xat (xby hS) (xa0 2)) (xac xaf (xbj hS) (xa0 2))))
    xae))))))
    (xa4 (xab xau (xbr hS) (xa0 1) (xa0 3))
    (xa4 (xbM (xbm (xa0 4)) (xa4 (xab xat (xby hS) (xa0 3) (xa0 1))
    xae) (xa4 (xab xaf (xbj hS) (xa0 3) (xa0 1))
    xae))
    (xa4 (xab xan (xbk hS) (xa0 1) xbZ)
    (xa4 (xaU (xas (xi0 hS) (xar 2) (xa2 (xa0 0) (xa2 (xa0 1) xaa))))
    xae)))))))))))))))
theorem xpb (hS : Std S) : xdd S 5 (.ref 140) xdM :=
  xaS (np := 2) (scope := xaJ (hd.heap_39 S.w.params) 140) ⟨_, _, _, _, _, _, _, _, _, _, _, by rw [hS.K]; rfl, by rw [hS.K]; rfl, fun vals h => by
    match vals, h with
    | [a0, a1], _ => rfl⟩ (by rfl) (xnC hS)
theorem xpe (hS : Std S) : GFn S 5 "put_node" xdM := ⟨.ref 140, by rw [hS.K]; rfl, by rw [hS.K]; rfl, xpb hS⟩
def xkk : Gn := ⟨["hand_down"], []⟩
def xjX : List Str := ["node"]
theorem xjS (hS : Std S) : SB S 1 xkk xjX (xbd (hd.heap_39 S.w.params) 147) xfL :=
    (xa4 (xaU (xas (xcn hS) (xar 0) (xa2 (xa0 0) xaa)))
    (xa4 (xfd (xaQ (xac xat (xby hS) (xa0 0)) (xax xbF xb4)) (xa4 (xaz 0 (xac xat (xby hS) (xa0 0)))
    (xa4 (xaU (xas (xcn hS) (xar 0) (xa2 (xa0 0) xaa)))
    xae)))
    (xa4 (xbB (xa0 0))
    xae)))
theorem xlb (hS : Std S) : xdd S 2 (.ref 147) xed :=
  xaS (np := 1) (scope := xaJ (hd.heap_39 S.w.params) 147) ⟨_, _, _, _, _, _, _, _, _, _, _, by rw [hS.K]; rfl, by rw [hS.K]; rfl, fun vals h => by
    match vals, h with
    | [a0], _ => rfl⟩ (by rfl) (xjS hS)
theorem xlH (hS : Std S) : GFn S 2 "first_below" xed := ⟨.ref 147, by rw [hS.K]; rfl, by rw [hS.K]; rfl, xlb hS⟩
def xla : Gn := ⟨["hang", "greatest_end"], []⟩
def xls : List Str := ["tree", "node", "other", "son"]
theorem xkZ (hS : Std S) : SB S 1 xla xls (xbd (hd.heap_39 S.w.params) 154) xga :=
    (xa4 (xaU (xas (xoQ hS) (xar 0) (xa2 (xa0 0) (xa2 (xac xau (xbr hS) (xa0 1)) (xa2 (xa0 1) (xa2 (xa0 2) xaa))))))
    (xa4 (xab xat (xby hS) (xa0 2) (xac xat (xby hS) (xa0 1)))
    (xa4 (xab xaf (xbj hS) (xa0 2) (xac xaf (xbj hS) (xa0 1)))
    (xa4 (xab xan (xbk hS) (xa0 2) (xac xan (xbk hS) (xa0 1)))
    (xa4 (xf1 3 (xey (xa2 (xac xat (xby hS) (xa0 2)) (xa2 (xac xaf (xbj hS) (xa0 2)) xaa))) (xa4 (xbM (xaQ (xa0 3) (xax xbF xb4)) (xa4 (xab xau (xbr hS) (xa0 3) (xa0 2))
    xae) xae)
    xae))
    (xa4 (xab xaA (xcf hS) (xa0 2) (xas (xck hS) (xar 1) (xa2 (xa0 2) xaa)))
    xae))))))
theorem xmD (hS : Std S) : xdd S 2 (.ref 154) xf0 :=
  xaS (np := 3) (scope := xaJ (hd.heap_39 S.w.params) 154) ⟨_, _, _, _, _, _, _, _, _, _, _, by rw [hS.K]; rfl, by rw [hS.K]; rfl, fun vals h => by
    match vals, h with
    | [a0, a1, a2], _ => rfl⟩ (by rfl) (xkZ hS)
theorem xm8 (hS : Std S) : GFn S 2 "take_place" xf0 := ⟨.ref 154, by rw [hS.K]; rfl, by rw [hS.K]; rfl, xmD hS⟩
def xj8 : Gn := ⟨["turn_left", "turn_right"], []⟩
def xjI : List Str := ["tree", "node", "is_left"]
theorem xjE (hS : Std S) : SB S 2 xj8 xjI (xbd (hd.heap_39 S.w.params) 182) xf9 :=
    (xa4 (xbM (xbm (xa0 2)) (xa4 (xaU (xas (xh3 hS) (xar 0) (xa2 (xa0 0) (xa2 (xa0 1) xaa))))
    xae) (xa4 (xaU (xas (xgj hS) (xar 1) (xa2 (xa0 0) (xa2 (xa0 1) xaa))))
    xae))
    xae)
theorem xkj (hS : Std S) : xdd S 3 (.ref 182) xcL :=
  xaS (np := 3) (scope := xaJ (hd.heap_39 S.w.params) 182) ⟨_, _, _, _, _, _, _, _, _, _, _, by rw [hS.K]; rfl, by rw [hS.K]; rfl, fun vals h => by
    match vals, h with
    | [a0, a1, a2], _ => rfl⟩ (by rfl) (xjE hS)
theorem xf6 (hS : Std S) : GFn S 3 "turn_towards" xcL := ⟨.ref 182, by rw [hS.K]; rfl, by rw [hS.K]; rfl, xkj hS⟩
def xl4 : Gn := ⟨[], []⟩
def xl7 : List Str := ["parent", "is_left"]
theorem xkU (hS : Std S) : SB S 0 xl4 xl7 (xbd (hd.heap_39 S.w.params) 175) xgl :=
    (xa4 (xbB (xiD (xbm (xa0 1)) (xac xaf (xbj hS) (xa0 0)) (xac xat (xby hS) (xa0 0))))
    xae)
theorem xlS (hS : Std S) : xdd S 1 (.ref 175) xdm :=
  xaS (np := 2) (scope := xaJ (hd.heap_39 S.w.params) 175) ⟨_, _, _, _, _, _, _, _, _, _, _, by rw [hS.K]; rfl, by rw [hS.K]; rfl, fun vals h => by
    match vals, h with
    | [a0, a1], _ => rfl⟩ (by rfl) (xkU hS)
theorem xg5 (hS : Std S) : GFn S 1 "sibling_of" xdm := ⟨.ref 175, by rw [hS.K]; rfl, by rw [hS.K]; rfl, xlS hS⟩
def xm1 : Gn := ⟨["sibling_of", "is_red", "turn_towards"], []⟩
def xmi : List Str := ["tree", "node", "parent", "is_left", "other", "outer", "inner"]
theorem xmF (hS : Std S) : SB S 3 xm1 xmi (xbd (hd.heap_39 S.w.params) 189) xh9 :=
    (xa4 (xaz 4 (xas (xg5 hS) (xar 0) (xa2 (xa0 2) (xa2 (xa0 3) xaa))))
    (xa4 (xbM (xbm (xas (xfA hS) (xar 1) (xa2 (xa0 4) xaa))) (xa4 (xab xan (xbk hS) (xa0 4) xbZ)
    (xa4 (xab xan (xbk hS) (xa0 2) xbZ)
    (xa4 (xaU (xas (xf6 hS) (xar 2) (xa2 (xa0 0) (xa2 (xa0 2) (xa2 (xa0 3) xaa)))))
    (xa4 (xaz 4 (xas (xg5 hS) (xar 0) (xa2 (xa0 2) (xa2 (xa0 3) xaa))))
    xae)))) xae)
    (xa4 (xaz 5 (xiD (xbm (xa0 3)) (xac xaf (xbj hS) (xa0 4)) (xac xat (xby hS) (xa0 4))))
    (xa4 (xaz 6 (xiD (xbm (xa0 3)) (xac xat (xby hS) (xa0 4)) (xac xaf (xbj hS) (xa0 4))))
    (xa4 (xbM (xcw (xja (xbm (xas (xfA hS) (xar 1) (xa2 (xa0 5) xaa)))) (xcw (xja (xbm (xas (xfA hS) (xar 1) (xa2 (xa0 6) xaa)))) xdJ)) (xa4 (xab xan (xbk hS) (xa0 4) xbZ)
    (xa4 (xbM (xpf (xbm (xac xan (xbk hS) (xa0 2))) (xpf (xaQ (xa0 2) (xax xio (xac xbh (xff hS) (xa0 0)))) xq7)) (xa4 (xab xan (xbk hS) (xa0 2) xbZ)
    (xa4 (xbB xb4)
    xae)) xae)
    (xa4 (xbB (xa0 2))
    xae))) xae)
    (xa4 (xbM (xja (xbm (xas (xfA hS) (xar 1) (xa2 (xa0 5) xaa)))) (xa4 (xab xan (xbk hS) (xa0 6) xbZ)
    (xa4 (xab xan (xbk hS) (xa0 4) xbZ)
    (xa4 (xaU (xas (xf6 hS) (xar 2) (xa2 (xa0 0) (xa2 (xa0 4) (xa2 (xqs (xa0 3)) xaa)))))
    (xa4 (xaz 4 (xas (xg5 hS) (xar 0) (xa2 (xa0 2) (xa2 (xa0 3) xaa))))
    (xa4 (xaz 5 (xiD (xbm (xa0 3)) (xac xaf (xbj hS) (xa0 4)) (xac xat (xby hS) (xa0 4))))
    xae))))) xae)
    (xa4 (xab xan (xbk hS) (xa0 4) (xac xan (xbk hS) (xa0 2)))
    (xa4 (xab xan (xbk hS) (xa0 2) xbZ)
    (xa4 (xab xan (xbk hS) (xa0 5) xbZ)
    (xa4 (xaU (xas (xf6 hS) (xar 2) (xa2 (xa0 0) (xa2 (xa0 2) (xa2 (xa0 3) xaa)))))
    (xa4 (xbB xb4)
    xae)))))))))))
theorem xnP (hS : Std S) : xdd S 4 (.ref 189) xfB :=
  xaS (np := 4) (scope := xaJ (hd.heap_39 S.w.params) 189) ⟨_, _, _, _, _, _, _, _, _, _, _, by rw [hS.K]; rfl, by rw [hS.K]; rfl, fun vals h => by
    match vals, h with
    | [a0, a1, a2, a3], _ => rfl⟩ (by rfl) (xmF hS)
theorem xo3 (hS : Std S) : GFn S 4 "lightened" xfB := ⟨.ref 189, by rw [hS.K]; rfl, by rw [hS.K]; rfl, xnP hS⟩
def xhR : Gn := ⟨["is_red", "lightened"], []⟩
def xi3 : List Str := ["tree", "node", "parent", "is_left"]
theorem xhX (hS : Std S) : SB S 4 xhR xi3 (xbd (hd.heap_39 S.w.params) 168) xdZ :=
    (xa4 (xfd (xcw (xaQ (xa0 1) (xax xbF (xac xbh (xff hS) (xa0 0)))) (xcw (xja (xbm (xas (xfA hS) (xar 0) (xa2 (xa0 1) xaa)))) xdJ)) (xa4 (xaz 3 (xcX (xac xat (xby hS) (xa0 2)) (xax xio (xa0 1))))
    (xa4 (xaz 1 (xas (xo3 hS) (xar 1) (xa2 (xa0 0) (xa2 (xa0 1) (xa2 (xa0 2) (xa2 (xa0 3) xaa))))))
    (xa4 (xbM (xaQ (xa0 1) (xax xio xb4)) (xa4 xjv
    xae) xae)
    (xa4 (xaz 2 (xac xau (xbr hS) (xa0 1)))
    xae)))))
    (xa4 (xbM (xaQ (xa0 1) (xax xbF xb4)) (xa4 (xab xan (xbk hS) (xa0 1) xbZ)
    xae) xae)
    xae))
theorem xiE (hS : Std S) : xdd S 5 (.ref 168) xde :=
  xaS (np := 3) (scope := xaJ (hd.heap_39 S.w.params) 168) ⟨_, _, _, _, _, _, _, _, _, _, _, by rw [hS.K]; rfl, by rw [hS.K]; rfl, fun vals h => by
    match vals, h with
    | [a0, a1, a2], _ => rfl⟩ (by rfl) (xhX hS)
theorem xim (hS : Std S) : GFn S 5 "colour_dropped" xde := ⟨.ref 168, by rw [hS.K]; rfl, by rw [hS.K]; rfl, xiE hS⟩
def xmo : Gn := ⟨["hand_down_to", "first_below", "hang", "take_place", "greatest_end", "colour_dropped"], []⟩
def xm9 : List Str := ["tree", "node", "gone", "son", "parent", "was_red", "here"]
theorem xmC (hS : Std S) : SB S 5 xmo xm9 (xbd (hd.heap_39 S.w.params) 161) xgW :=
    (xa4 (xab xcu (xhB hS) (xa0 0) (xbS xhx (xac xcu (xhB hS) (xa0 0)) xaH))
    (xa4 (xaU (xas (xfe hS) (xar 0) (xa2 (xa0 1) xaa)))
    (xa4 (xaz 2 (xa0 1))
    (xa4 (xbM (xcw (xaQ (xac xat (xby hS) (xa0 1)) (xax xbF xb4)) (xcw (xaQ (xac xaf (xbj hS) (xa0 1)) (xax xbF xb4)) xdJ)) (xa4 (xaz 2 (xas (xlH hS) (xar 1) (xa2 (xac xaf (xbj hS) (xa0 1)) xaa)))
    xae) xae)
    (xa4 (xaz 3 (xiD (xaQ (xac xat (xby hS) (xa0 2)) (xax xbF xb4)) (xac xat (xby hS) (xa0 2)) (xac xaf (xbj hS) (xa0 2))))
    (xa4 (xaz 4 (xac xau (xbr hS) (xa0 2)))
    (xa4 (xaz 5 (xac xan (xbk hS) (xa0 2)))
    (xa4 (xaU (xas (xoQ hS) (xar 2) (xa2 (xa0 0) (xa2 (xa0 4) (xa2 (xa0 2) (xa2 (xa0 3) xaa))))))
    (xa4 (xbM (xaQ (xa0 2) (xax xbF (xa0 1))) (xa4 (xaU (xas (xm8 hS) (xar 3) (xa2 (xa0 0) (xa2 (xa0 1) (xa2 (xa0 2) xaa)))))
    (xa4 (xaz 4 (xiD (xaQ (xa0 4) (xax xio (xa0 1))) (xa0 2) (xa0 4)))
    xae)) xae)
    (xa4 (xaz 6 (xa0 4))
    (xa4 (xfd (xaQ (xa0 6) (xax xbF xb4)) (xa4 (xab xaA (xcf hS) (xa0 6) (xas (xck hS) (xar 4) (xa2 (xa0 6) xaa)))
    (xa4 (xaz 6 (xac xau (xbr hS) (xa0 6)))
    xae)))
    (xa4 (xbM (xja (xbm (xa0 5))) (xa4 (xaU (xas (xim hS) (xar 5) (xa2 (xa0 0) (xa2 (xa0 3) (xa2 (xa0 4) xaa)))))
    xae) xae)
    (xa4 (xab xat (xby hS) (xa0 1) xb4)
    (xa4 (xab xaf (xbj hS) (xa0 1) xb4)
    (xa4 (xab xau (xbr hS) (xa0 1) xb4)
    xae)))))))))))))))
theorem xnZ (hS : Std S) : xdd S 6 (.ref 161) xdf :=
  xaS (np := 2) (scope := xaJ (hd.heap_39 S.w.params) 161) ⟨_, _, _, _, _, _, _, _, _, _, _, by rw [hS.K]; rfl, by rw [hS.K]; rfl, fun vals h => by
    match vals, h with
    | [a0, a1], _ => rfl⟩ (by rfl) (xmC hS)
theorem xnL (hS : Std S) : GFn S 6 "drop_node" xdf := ⟨.ref 161, by rw [hS.K]; rfl, by rw [hS.K]; rfl, xnZ hS⟩
def xiH : Gn := ⟨["len", "hand_down"], []⟩
def xix : List Str := ["tree", "begin", "end", "found", "waiting", "node"]
theorem xiz (hS : Std S) : SB S 1 xiH xix (xbd (hd.heap_39 S.w.params) 196) xcZ :=
    (xa4 (xaz 3 (xcD xaa))
    (xa4 (xaz 4 (xcD xaa))
    (xa4 (xaz 5 (xac xbh (xff hS) (xa0 0)))
    (xa4 (xfd (xpf (xaQ (xa0 5) (xax xbF xb4)) (xpf (xaQ (xbl (xi8 hS) (xar 0) (xa2 (xa0 4) xaa)) (xax xmA xaH)) xq7)) (xa4 (xfd (xaQ (xa0 5) (xax xbF xb4)) (xa4 (xaU (xas (xcn hS) (xar 1) (xa2 (xa0 5) xaa)))
    (xa4 (xbM (xaQ (xac xaA (xcf hS) (xa0 5)) (xax xeF (xa0 1))) (xa4 (xaz 5 xb4)
    xae) (xa4 (xaU (xet PySem.F.slot_list_append PySem.F.type_list_append xgy (xa0 4) (xa0 5)))
    (xa4 (xaz 5 (xac xat (xby hS) (xa0 5)))
    xae)))
    xae)))
    (xa4 (xbM (xaQ (xbl (xi8 hS) (xar 0) (xa2 (xa0 4) xaa)) (xax xmA xaH)) (xa4 (xaz 5 (xrL (xa0 4)))
    (xa4 (xbM (xcw (xaQ (xac xal (xbT hS) (xa0 5)) (xax xl5 (xa0 2))) (xcw (xaQ (xac xaI (xdB hS) (xa0 5)) (xax xs8 (xa0 1))) xdJ)) (xa4 (xaU (xet PySem.F.slot_list_append PySem.F.type_list_append xgy (xa0 3) (xa0 5)))
    xae) xae)
    (xa4 (xaz 5 (xiD (xaQ (xac xal (xbT hS) (xa0 5)) (xax xl5 (xa0 2))) (xac xaf (xbj hS) (xa0 5)) xb4))
    xae))) xae)
    xae)))
    (xa4 (xbB (xa0 3))
    xae)))))
theorem xiX (hS : Std S) : xdd S 2 (.ref 196) xb0 :=
  xaS (np := 3) (scope := xaJ (hd.heap_39 S.w.params) 196) ⟨_, _, _, _, _, _, _, _, _, _, _, by rw [hS.K]; rfl, by rw [hS.K]; rfl, fun vals h => by
    match vals, h with
    | [a0, a1, a2], _ => rfl⟩ (by rfl) (xiz hS)
theorem xcU (hS : Std S) : GFn S 2 "nodes_between" xb0 := ⟨.ref 196, by rw [hS.K]; rfl, by rw [hS.K]; rfl, xiX hS⟩
def xmq : Gn := ⟨["len", "hand_down", "max", "renew_limits"], []⟩
def xn4 : List Str := ["tree", "at", "many", "waiting", "node"]
theorem xmf (hS : Std S) : SB S 2 xmq xn4 (xbd (hd.heap_39 S.w.params) 203) xfq :=
    (xa4 (xbM (xaQ (xa0 2) (xax xl5 xaH)) (xa4 xjv
    xae) xae)
    (xa4 (xaz 3 (xcD (xa2 (xac xbh (xff hS) (xa0 0)) xaa)))
    (xa4 (xfd (xaQ (xbl (xi8 hS) (xar 0) (xa2 (xa0 3) xaa)) (xax xmA xaH)) (xa4 (xaz 4 (xrL (xa0 3)))
    (xa4 (xbM (xaQ (xa0 4) (xax xbF xb4)) (xa4 (xaU (xas (xcn hS) (xar 1) (xa2 (xa0 4) xaa)))
    (xa4 (xbM (xaQ (xac xaA (xcf hS) (xa0 4)) (xax xmA (xa0 1))) (xa4 (xbM (xcw (xaQ (xac xaf (xbj hS) (xa0 4)) (xax xbF xb4)) (xcw (xaQ (xac xal (xbT hS) (xa0 4)) (xax xmA (xbS xdt (xa0 1) (xa0 2)))) xdJ)) (xa4 (xab xay (xcx hS) (xac xaf (xbj hS) (xa0 4)) (xbS xhx (xac xay (xcx hS) (xac xaf (xbj hS) (xa0 4))) (xa0 2)))
    xae) (xa4 (xaU (xet PySem.F.slot_list_append PySem.F.type_list_append xgy (xa0 3) (xac xaf (xbj hS) (xa0 4))))
    xae))
    (xa4 (xaU (xet PySem.F.slot_list_append PySem.F.type_list_append xgy (xa0 3) (xac xat (xby hS) (xa0 4))))
    (xa4 (xbM (xaQ (xac xal (xbT hS) (xa0 4)) (xax xmA (xa0 1))) (xa4 (xab xal (xbT hS) (xa0 4) (xbl (xhN hS) (xar 2) (xa2 (xa0 1) (xa2 (xbS xhx (xac xal (xbT hS) (xa0 4)) (xa0 2)) xaa))))
    xae) xae)
    (xa4 (xbM (xaQ (xac xaI (xdB hS) (xa0 4)) (xax xmA (xa0 1))) (xa4 (xab xaI (xdB hS) (xa0 4) (xbl (xhN hS) (xar 2) (xa2 (xa0 1) (xa2 (xbS xhx (xac xaI (xdB hS) (xa0 4)) (xa0 2)) xaa))))
    xae) xae)
    (xa4 (xaU (xas (xk7 hS) (xar 3) (xa2 (xa0 4) xaa)))
    xae))))) xae)
    xae)) xae)
    xae)))
    xae)))
theorem xnw (hS : Std S) : xdd S 3 (.ref 203) xeD :=
  xaS (np := 3) (scope := xaJ (hd.heap_39 S.w.params) 203) ⟨_, _, _, _, _, _, _, _, _, _, _, by rw [hS.K]; rfl, by rw [hS.K]; rfl, fun vals h => by
    match vals, h with
    | [a0, a1, a2], _ => rfl⟩ (by rfl) (xmf hS)
theorem xnR (hS : Std S) : GFn S 3 "close_gap" xeD := ⟨.ref 203, by rw [hS.K]; rfl, by rw [hS.K]; rfl, xnw hS⟩
def xtW : Gn := ⟨["isinstance", "bool"], []⟩
def xtZ : List Str := ["one", "other"]
theorem xu3 (hS : Std S) : SB S 0 xtW xtZ (xbd (hd.heap_39 S.w.params) 210) xub :=
    (xa4 (xbM (xpf (xbm (xhz rfl rfl (xar 0) (xar 1) (xe8 hS) (xkX hS) (by decide +kernel) (by decide +kernel) (xa0 0) (by decide +kernel) (by decide +kernel) (by decide +kernel) (by decide +kernel))) (xpf (xbm (xhz rfl rfl (xar 0) (xar 1) (xe8 hS) (xkX hS) (by decide +kernel) (by decide +kernel) (xa0 1) (by decide +kernel) (by decide +kernel) (by decide +kernel) (by decide +kernel))) xq7)) (xa4 (xbB (xkw (xhz rfl rfl (xar 0) (xar 1) (xe8 hS) (xkX hS) (by decide +kernel) (by decide +kernel) (xa0 0) (by decide +kernel) (by decide +kernel) (by decide +kernel) (by decide +kernel)) (xkw (xhz rfl rfl (xar 0) (xar 1) (xe8 hS) (xkX hS) (by decide +kernel) (by decide +kernel) (xa0 1) (by decide +kernel) (by decide +kernel) (by decide +kernel) (by decide +kernel)) (xf2 (xcX (xa0 0) (xax xdK (xa0 1)))))))
    xae) xae)
    (xa4 (xbB (xcX (xa0 0) (xax xdK (xa0 1))))
    xae))
theorem xuk (hS : Std S) : xdd S 1 (.ref 210) xsK :=
  xaS (np := 2) (scope := xaJ (hd.heap_39 S.w.params) 210) ⟨_, _, _, _, _, _, _, _, _, _, _, by rw [hS.K]; rfl, by rw [hS.K]; rfl, fun vals h => by
    match vals, h with
    | [a0, a1], _ => rfl⟩ (by rfl) (xu3 hS)
theorem xue (hS : Std S) : GFn S 1 "eq" xsK := ⟨.ref 210, by rw [hS.K]; rfl, by rw [hS.K]; rfl, xuk hS⟩
def xlx : Gn := ⟨["range", "len"], []⟩
def xkK : List Str := ["plist", "number", "at"]
theorem xly (hS : Std S) : SB S 0 xlx xkK (xbd (hd.heap_39 S.w.params) 217) xdl :=
    (xa4 (xf1 2 (xbl (xlA hS) (xar 0) (xa2 (xbl (xi8 hS) (xar 1) (xa2 (xa0 0) xaa)) xaa)) (xa4 (xbM (xaQ (xbN (xbN (xa0 0) (xa0 2)) xaH) (xax xdK (xa0 1))) (xa4 (xbB (xa0 2))
    xae) xae)
    xae))
    (xa4 (xbB (xtg xaH))
    xae))
theorem xmV (hS : Std S) : xdd S 1 (.ref 217) xbI :=
  xaS (np := 2) (scope := xaJ (hd.heap_39 S.w.params) 217) ⟨_, _, _, _, _, _, _, _, _, _, _, by rw [hS.K]; rfl, by rw [hS.K]; rfl, fun vals h => by
    match vals, h with
    | [a0, a1], _ => rfl⟩ (by rfl) (xly hS)
theorem xgd (hS : Std S) : GFn S 1 "plist_find" xbI := ⟨.ref 217, by rw [hS.K]; rfl, by rw [hS.K]; rfl, xmV hS⟩
def xm4 : Gn := ⟨["plist_find"], []⟩
def xlR : List Str := ["plist", "number", "at"]
theorem xml (hS : Std S) : SB S 1 xm4 xlR (xbd (hd.heap_39 S.w.params) 224) xfE :=
    (xa4 (xaz 2 (xas (xgd hS) (xar 0) (xa2 (xa0 0) (xa2 (xa0 1) xaa))))
    (xa4 (xbB (xiD (xaQ (xa0 2) (xax xs8 xaH)) (xey (xa2 (xbN (xbN (xa0 0) (xa0 2)) xaH) xaa)) xb4))
    xae))
theorem xns (hS : Std S) : xdd S 2 (.ref 224) xcG :=
  xaS (np := 2) (scope := xaJ (hd.heap_39 S.w.params) 224) ⟨_, _, _, _, _, _, _, _, _, _, _, by rw [hS.K]; rfl, by rw [hS.K]; rfl, fun vals h => by
    match vals, h with
    | [a0, a1], _ => rfl⟩ (by rfl) (xml hS)
theorem xjx (hS : Std S) : GFn S 2 "plist_get" xcG := ⟨.ref 224, by rw [hS.K]; rfl, by rw [hS.K]; rfl, xns hS⟩
def xkL : Gn := ⟨["plist_find"], []⟩
def xkN : List Str := ["plist", "number", "value", "at"]
theorem xkT (hS : Std S) : SB S 1 xkL xkN (xbd (hd.heap_39 S.w.params) 231) xeV :=
    (xa4 (xaz 3 (xas (xgd hS) (xar 0) (xa2 (xa0 0) (xa2 (xa0 1) xaa))))
    (xa4 (xbM (xaQ (xa0 3) (xax xeF xaH)) (xa4 (xbB (xbS xqt (xa0 0) (xcD (xa2 (xey (xa2 (xa0 1) (xa2 (xa0 2) xaa))) xaa))))
    xae) xae)
    (xa4 xqd
    xae)))
theorem xmW (hS : Std S) : xdd S 2 (.ref 231) xdk :=
  xaS (np := 3) (scope := xaJ (hd.heap_39 S.w.params) 231) ⟨_, _, _, _, _, _, _, _, _, _, _, by rw [hS.K]; rfl, by rw [hS.K]; rfl, fun vals h => by
    match vals, h with
    | [a0, a1, a2], _ => rfl⟩ (by rfl) (xkT hS)
theorem xmw (hS : Std S) : GFn S 2 "plist_with" xdk := ⟨.ref 231, by rw [hS.K]; rfl, by rw [hS.K]; rfl, xmW hS⟩
def xlc : Gn := ⟨["plist_find", "eq"], []⟩
def xlB : List Str := ["plist", "number", "value", "at"]
theorem xlq (hS : Std S) : SB S 1 xlc xlB (xbd (hd.heap_39 S.w.params) 238) xeW :=
    (xa4 (xaz 3 (xas (xgd hS) (xar 0) (xa2 (xa0 0) (xa2 (xa0 1) xaa))))
    (xa4 (xbB (xkw (xcX (xa0 3) (xax xs8 xaH)) (xf2 (xas (xue hS) (xar 1) (xa2 (xbN (xbN (xa0 0) (xa0 3)) xaH) (xa2 (xa0 2) xaa))))))
    xae))
theorem xmB (hS : Std S) : xdd S 2 (.ref 238) xdn :=
  xaS (np := 3) (scope := xaJ (hd.heap_39 S.w.params) 238) ⟨_, _, _, _, _, _, _, _, _, _, _, by rw [hS.K]; rfl, by rw [hS.K]; rfl, fun vals h => by
    match vals, h with
    | [a0, a1, a2], _ => rfl⟩ (by rfl) (xlq hS)
theorem xmj (hS : Std S) : GFn S 2 "holds_pair" xdn := ⟨.ref 238, by rw [hS.K]; rfl, by rw [hS.K]; rfl, xmB hS⟩
def xh5 : Gn := ⟨["NAMES"], []⟩
def xgY : List Str := ["self", "name"]
theorem xgV (hS : Std S) : SB S 0 xh5 xgY (xbd (hd.heap_39 S.w.params) 471) xeS :=
    (xa4 (xbB (xbS xdt (xac xhD (xoF hS) (xa0 0)) (xpZ (xar 0) (xqH hS) (xrb hS) xpq (by decide) (xa0 1))))
    xae)
theorem xht (hS : Std S) : xdd S 1 (.ref 471) xbP :=
  xaS (np := 2) (scope := xaJ (hd.heap_39 S.w.params) 471) ⟨_, _, _, _, _, _, _, _, _, _, _, by rw [hS.K]; rfl, by rw [hS.K]; rfl, fun vals h => by
    match vals, h with
    | [a0, a1], _ => rfl⟩ (by rfl) (xgV hS)
theorem xc3 (hS : Std S) : MFn S 1 5 "number" xbP := ⟨471, xty hS, by rw [hS.K, hS.cadr]; rfl, by rw [hS.K]; rfl, by rw [hS.K]; rfl, fun k h => by
    rw [hS.flds] at h
    have := List.mem_of_getElem? h
    revert this; decide +kernel, xht hS⟩
def xgi : Gn := ⟨[], []⟩
def xgn : List Str := ["self", "lisp"]
theorem xg7 (hS : Std S) : SB S 1 xgi xgn (xbd (hd.heap_39 S.w.params) 252) xe2 :=
    (xa4 (xab xnp (xsn hS) (xa0 0) (xa0 1))
    (xa4 (xab xf4 (xmg hS) (xa0 0) (xac xf4 (xmg hS) (xa0 1)))
    (xa4 (xab xh0 (xni hS) (xa0 0) (xac xh0 (xni hS) (xa0 1)))
    (xa4 (xab xcR (xjN hS) (xa0 0) (xif (xc3 hS) (xa0 1) (xa2 xmm xaa)))
    (xa4 (xab xep (xjz hS) (xa0 0) (xif (xc3 hS) (xa0 1) (xa2 xmm xaa)))
    (xa4 (xab xdS (xhL hS) (xa0 0) (xif (xc3 hS) (xa0 1) (xa2 xmm xaa)))
    (xa4 (xab xbH (xgk hS) (xa0 0) (xif (xc3 hS) (xa0 1) (xa2 xmm xaa)))
    (xa4 (xab xhb (xnV hS) (xa0 0) (xif (xc3 hS) (xa0 1) (xa2 xmm xaa)))
    (xa4 (xab xha (xnE hS) (xa0 0) xiM)
    xae)))))))))
theorem xgJ (hS : Std S) : xdd S 2 (.ref 252) xe6 :=
  xaS (np := 2) (scope := xaJ (hd.heap_39 S.w.params) 252) ⟨_, _, _, _, _, _, _, _, _, _, _, by rw [hS.K]; rfl, by rw [hS.K]; rfl, fun vals h => by
    match vals, h with
    | [a0, a1], _ => rfl⟩ (by rfl) (xg7 hS)
def xh6 : Gn := ⟨["eq"], []⟩
def xh2 : List Str := ["self", "value"]
theorem xh7 (hS : Std S) : SB S 1 xh6 xh2 (xbd (hd.heap_39 S.w.params) 259) xbX :=
    (xa4 (xbB (xas (xue hS) (xar 0) (xa2 (xa0 1) (xa2 (xac xf4 (xmg hS) (xa0 0)) xaa))))
    xae)
theorem xhe (hS : Std S) : xdd S 2 (.ref 259) xaY :=
  xaS (np := 2) (scope := xaJ (hd.heap_39 S.w.params) 259) ⟨_, _, _, _, _, _, _, _, _, _, _, by rw [hS.K]; rfl, by rw [hS.K]; rfl, fun vals h => by
    match vals, h with
    | [a0, a1], _ => rfl⟩ (by rfl) (xh7 hS)
theorem xeo (hS : Std S) : MFn S 2 4 "is_nil" xaY := ⟨259, xqx hS, by rw [hS.K, hS.cadr]; rfl, by rw [hS.K]; rfl, by rw [hS.K]; rfl, fun k h => by
    rw [hS.flds] at h
    have := List.mem_of_getElem? h
    revert this; decide +kernel, xhe hS⟩
def xnK : Gn := ⟨["plist_get"], []⟩
def xo1 : List Str := ["rules", "plist", "number", "found", "category"]
theorem xnA (hS : Std S) : SB S 2 xnK xo1 (xbd (hd.heap_39 S.w.params) 273) xgD :=
    (xa4 (xaz 3 (xas (xjx hS) (xar 0) (xa2 (xa0 1) (xa2 (xa0 2) xaa))))
    (xa4 (xbM (xaQ (xa0 3) (xax xio xb4)) (xa4 (xaz 4 (xas (xjx hS) (xar 0) (xa2 (xa0 1) (xa2 (xac xcR (xjN hS) (xa0 0)) xaa))))
    (xa4 (xbM (xcw (xaQ (xa0 4) (xax xbF xb4)) (xcw xsx xdJ)) (xa4 xqd
    xae) xae)
    xae)) xae)
    (xa4 (xbB (xiD (xaQ (xa0 3) (xax xio xb4)) (xac xf4 (xmg hS) (xa0 0)) (xbN (xa0 3) xaH)))
    xae)))
theorem xph (hS : Std S) : xdd S 3 (.ref 273) xfl :=
  xaS (np := 3) (scope := xaJ (hd.heap_39 S.w.params) 273) ⟨_, _, _, _, _, _, _, _, _, _, _, by rw [hS.K]; rfl, by rw [hS.K]; rfl, fun vals h => by
    match vals, h with
    | [a0, a1, a2], _ => rfl⟩ (by rfl) (xnA hS)
theorem xpd (hS : Std S) : GFn S 3 "value_in" xfl := ⟨.ref 273, by rw [hS.K]; rfl, by rw [hS.K]; rfl, xph hS⟩
theorem xkR (hS : Std S) : GFn S 2 "OverlayNode" xd6 := ⟨.ref (S.cadr 0), by rw [hS.K, hS.cadr]; rfl, by rw [hS.K, hS.cadr]; rfl, xgt (by rw [hS.K, hS.cadr]; rfl) (by rw [hS.K, hS.cadr]; rfl) (by rw [hS.K]; rfl) (xfX hS)⟩
def xgQ : Gn := ⟨["OverlayNode"], []⟩
def xgR : List Str := ["self", "number", "front_advance", "rear_advance"]
theorem xgU (hS : Std S) : SB S 2 xgQ xgR (xbd (hd.heap_39 S.w.params) 287) xcP :=
    (xa4 (xab xb6 (xej hS) (xa0 0) (xa0 1))
    (xa4 (xab xb9 (xeu hS) (xa0 0) (xas (xkR hS) (xar 0) (xa2 (xa0 1) (xa2 xaH (xa2 xaH (xa2 (xa0 2) (xa2 (xa0 3) xaa)))))))
    (xa4 (xab xbn (xh1 hS) (xa0 0) xb4)
    (xa4 (xab xbK (xgC hS) (xa0 0) (xcD xaa))
    xae))))
theorem xhF (hS : Std S) : xdd S 3 (.ref 287) xcQ :=
  xaS (np := 4) (scope := xaJ (hd.heap_39 S.w.params) 287) ⟨_, _, _, _, _, _, _, _, _, _, _, by rw [hS.K]; rfl, by rw [hS.K]; rfl, fun vals h => by
    match vals, h with
    | [a0, a1, a2, a3], _ => rfl⟩ (by rfl) (xgU hS)
theorem xlD (hS : Std S) : GFn S 2 "OverlayTree" xhm := ⟨.ref (S.cadr 1), by rw [hS.K, hS.cadr]; rfl, by rw [hS.K, hS.cadr]; rfl, xgt (by rw [hS.K, hS.cadr]; rfl) (by rw [hS.K, hS.cadr]; rfl) (by rw [hS.K]; rfl) (xfW hS)⟩
def xfr : Gn := ⟨["OverlayTree"], []⟩
def xfx : List Str := ["self", "rules"]
theorem xft (hS : Std S) : SB S 2 xfr xfx (xbd (hd.heap_39 S.w.params) 308) xdD :=
    (xa4 (xab xbv (xfN hS) (xa0 0) (xqQ (xlD hS) (xar 0)))
    (xa4 (xab xbf (xeA hS) (xa0 0) xiM)
    (xa4 (xab xc9 (xiL hS) (xa0 0) (xa0 1))
    xae)))
theorem xfT (hS : Std S) : xdd S 3 (.ref 308) xdC :=
  xaS (np := 2) (scope := xaJ (hd.heap_39 S.w.params) 308) ⟨_, _, _, _, _, _, _, _, _, _, _, by rw [hS.K]; rfl, by rw [hS.K]; rfl, fun vals h => by
    match vals, h with
    | [a0, a1], _ => rfl⟩ (by rfl) (xft hS)
def xnu : Gn := ⟨[], ["home"]⟩
def xnr : List Str := ["home", "nodes"]
def xkI : Gn := ⟨[], []⟩
theorem xnT (hS : Std S) : SB S 0 xnu xnr (xbd (hd.heap_39 S.w.params) 411) xgA :=
    (xa4 (xbB (xe0 [true, false] xkI (by rfl) (xa0 1) xfh (xbN (xac xbf (xeA hS) (xa0 1)) (xac xb6 (xej hS) (xa0 0)))))
    xae)
theorem xp6 (hS : Std S) : xdd S 1 (.ref 411) xdI :=
  xaS (np := 2) (scope := xaJ (hd.heap_39 S.w.params) 411) ⟨_, _, _, _, _, _, _, _, _, _, _, by rw [hS.K]; rfl, by rw [hS.K]; rfl, fun vals h => by
    match vals, h with
    | [a0, a1], _ => rfl⟩ (by rfl) (xnT hS)
theorem xhS (hS : Std S) : GFn S 1 "of_nodes" xdI := ⟨.ref 411, by rw [hS.K]; rfl, by rw [hS.K]; rfl, xp6 hS⟩
def xk8 : Gn := ⟨["value_in"], []⟩
def xko : List Str := ["rules", "overlay", "number"]
theorem xjU (hS : Std S) : SB S 3 xk8 xko (xbd (hd.heap_39 S.w.params) 385) xe7 :=
    (xa4 (xbB (xas (xpd hS) (xar 0) (xa2 (xa0 0) (xa2 (xac xbK (xgC hS) (xa0 1)) (xa2 (xa0 2) xaa)))))
    xae)
theorem xlM (hS : Std S) : xdd S 4 (.ref 385) xcF :=
  xaS (np := 3) (scope := xaJ (hd.heap_39 S.w.params) 385) ⟨_, _, _, _, _, _, _, _, _, _, _, by rw [hS.K]; rfl, by rw [hS.K]; rfl, fun vals h => by
    match vals, h with
    | [a0, a1, a2], _ => rfl⟩ (by rfl) (xjU hS)
theorem xkY (hS : Std S) : GFn S 4 "overlay_get" xcF := ⟨.ref 385, by rw [hS.K]; rfl, by rw [hS.K]; rfl, xlM hS⟩
def xkl : Gn := ⟨["overlay_get"], []⟩
def xk1 : List Str := ["rules", "overlay"]
theorem xjZ (hS : Std S) : SB S 4 xkl xk1 (xbd (hd.heap_39 S.w.params) 392) xeg :=
    (xa4 (xbB (xqs (xif (xeo hS) (xa0 0) (xa2 (xas (xkY hS) (xar 0) (xa2 (xa0 0) (xa2 (xa0 1) (xa2 (xac xbH (xgk hS) (xa0 0)) xaa)))) xaa))))
    xae)
theorem xkO (hS : Std S) : xdd S 5 (.ref 392) xbw :=
  xaS (np := 2) (scope := xaJ (hd.heap_39 S.w.params) 392) ⟨_, _, _, _, _, _, _, _, _, _, _, by rw [hS.K]; rfl, by rw [hS.K]; rfl, fun vals h => by
    match vals, h with
    | [a0, a1], _ => rfl⟩ (by rfl) (xjZ hS)
theorem xhd (hS : Std S) : GFn S 5 "is_fleeting" xbw := ⟨.ref 392, by rw [hS.K]; rfl, by rw [hS.K]; rfl, xkO hS⟩
def xnU : Gn := ⟨["drop_node"], []⟩
def xnk : List Str := ["overlay"]
theorem xnH (hS : Std S) : SB S 6 xnU xnk (xbd (hd.heap_39 S.w.params) 364) xeh :=
    (xa4 (xbM (xaQ (xac xbn (xh1 hS) (xa0 0)) (xax xbF xb4)) (xa4 (xaU (xas (xnL hS) (xar 0) (xa2 (xac xbv (xfN hS) (xac xbn (xh1 hS) (xa0 0))) (xa2 (xac xb9 (xeu hS) (xa0 0)) xaa))))
    (xa4 (xaU (xqj PySem.F.slot_dict_pop PySem.F.type_dict_pop xtp (xac xbf (xeA hS) (xac xbn (xh1 hS) (xa0 0))) (xac xb6 (xej hS) (xa0 0))))
    (xa4 (xab xbn (xh1 hS) (xa0 0) xb4)
    xae))) xae)
    xae)
theorem xpj (hS : Std S) : xdd S 7 (.ref 364) xbA :=
  xaS (np := 1) (scope := xaJ (hd.heap_39 S.w.params) 364) ⟨_, _, _, _, _, _, _, _, _, _, _, by rw [hS.K]; rfl, by rw [hS.K]; rfl, fun vals h => by
    match vals, h with
    | [a0], _ => rfl⟩ (by rfl) (xnH hS)
theorem xgw (hS : Std S) : GFn S 7 "take_out" xbA := ⟨.ref 364, by rw [hS.K]; rfl, by rw [hS.K]; rfl, xpj hS⟩
def xmU : Gn := ⟨["close_gap", "of_nodes", "nodes_between", "is_fleeting", "take_out"], []⟩
def xn7 : List Str := ["home", "at", "many", "overlay"]
theorem xms (hS : Std S) : SB S 7 xmU xn7 (xbd (hd.heap_39 S.w.params) 449) xfv :=
    (xa4 (xaU (xas (xnR hS) (xar 0) (xa2 (xac xbv (xfN hS) (xa0 0)) (xa2 (xa0 1) (xa2 (xa0 2) xaa)))))
    (xa4 (xf1 3 (xas (xhS hS) (xar 1) (xa2 (xa0 0) (xa2 (xas (xcU hS) (xar 2) (xa2 (xac xbv (xfN hS) (xa0 0)) (xa2 (xa0 1) (xa2 (xa0 1) xaa)))) xaa))) (xa4 (xbM (xcw (xaQ (xac xal (xbT hS) (xac xb9 (xeu hS) (xa0 3))) (xax xdK (xac xaI (xdB hS) (xac xb9 (xeu hS) (xa0 3))))) (xcw (xbm (xas (xhd hS) (xar 3) (xa2 (xac xc9 (xiL hS) (xa0 0)) (xa2 (xa0 3) xaa)))) xdJ)) (xa4 (xaU (xas (xgw hS) (xar 4) (xa2 (xa0 3) xaa)))
    xae) xae)
    xae))
    xae))
theorem xo7 (hS : Std S) : xdd S 8 (.ref 449) xeC :=
  xaS (np := 3) (scope := xaJ (hd.heap_39 S.w.params) 449) ⟨_, _, _, _, _, _, _, _, _, _, _, by rw [hS.K]; rfl, by rw [hS.K]; rfl, fun vals h => by
    match vals, h with
    | [a0, a1, a2], _ => rfl⟩ (by rfl) (xms hS)
theorem xnz (hS : Std S) : GFn S 8 "text_went" xeC := ⟨.ref 449, by rw [hS.K]; rfl, by rw [hS.K]; rfl, xo7 hS⟩
def xg0 : Gn := ⟨["text_went"], []⟩
def xfZ : List Str := ["self", "begin", "end"]
theorem xfS (hS : Std S) : SB S 8 xg0 xfZ (xbd (hd.heap_39 S.w.params) 322) xcg :=
    (xa4 (xaU (xas (xnz hS) (xar 0) (xa2 (xa0 0) (xa2 (xa0 1) (xa2 (xbS xhx (xa0 2) (xa0 1)) xaa)))))
    xae)
theorem xg9 (hS : Std S) : xdd S 9 (.ref 322) xbq :=
  xaS (np := 3) (scope := xaJ (hd.heap_39 S.w.params) 322) ⟨_, _, _, _, _, _, _, _, _, _, _, by rw [hS.K]; rfl, by rw [hS.K]; rfl, fun vals h => by
    match vals, h with
    | [a0, a1, a2], _ => rfl⟩ (by rfl) (xfS hS)
theorem xg1 (hS : Std S) : MFn S 9 3 "deleted" xbq := ⟨322, xtG hS, by rw [hS.K, hS.cadr]; rfl, by rw [hS.K]; rfl, by rw [hS.K]; rfl, fun k h => by
    rw [hS.flds] at h
    have := List.mem_of_getElem? h
    revert this; decide +kernel, xg9 hS⟩
def xiv : Gn := ⟨["hand_down_to"], []⟩
def xiw : List Str := ["overlay"]
theorem xiG (hS : Std S) : SB S 2 xiv xiw (xbd (hd.heap_39 S.w.params) 350) xdx :=
    (xa4 (xaU (xas (xfe hS) (xar 0) (xa2 (xac xb9 (xeu hS) (xa0 0)) xaa)))
    (xa4 (xbB (xac xal (xbT hS) (xac xb9 (xeu hS) (xa0 0))))
    xae))
theorem xjb (hS : Std S) : xdd S 3 (.ref 350) xbt :=
  xaS (np := 1) (scope := xaJ (hd.heap_39 S.w.params) 350) ⟨_, _, _, _, _, _, _, _, _, _, _, by rw [hS.K]; rfl, by rw [hS.K]; rfl, fun vals h => by
    match vals, h with
    | [a0], _ => rfl⟩ (by rfl) (xiG hS)
theorem xgq (hS : Std S) : GFn S 3 "overlay_begin" xbt := ⟨.ref 350, by rw [hS.K]; rfl, by rw [hS.K]; rfl, xjb hS⟩
def xkb : Gn := ⟨["hand_down_to"], []⟩
def xk6 : List Str := ["overlay"]
theorem xjQ (hS : Std S) : SB S 2 xkb xk6 (xbd (hd.heap_39 S.w.params) 357) xeb :=
    (xa4 (xaU (xas (xfe hS) (xar 0) (xa2 (xac xb9 (xeu hS) (xa0 0)) xaa)))
    (xa4 (xbB (xac xaI (xdB hS) (xac xb9 (xeu hS) (xa0 0))))
    xae))
theorem xkJ (hS : Std S) : xdd S 3 (.ref 357) xbR :=
  xaS (np := 1) (scope := xaJ (hd.heap_39 S.w.params) 357) ⟨_, _, _, _, _, _, _, _, _, _, _, by rw [hS.K]; rfl, by rw [hS.K]; rfl, fun vals h => by
    match vals, h with
    | [a0], _ => rfl⟩ (by rfl) (xjQ hS)
theorem xhk (hS : Std S) : GFn S 3 "overlay_end" xbR := ⟨.ref 357, by rw [hS.K]; rfl, by rw [hS.K]; rfl, xkJ hS⟩
def xt2 : Gn := ⟨["take_out", "min", "max", "put_node"], []⟩
def xt6 : List Str := ["overlay", "home", "begin", "end"]
theorem xtz (hS : Std S) : SB S 7 xt2 xt6 (xbd (hd.heap_39 S.w.params) 371) xri :=
    (xa4 (xaU (xas (xgw hS) (xar 0) (xa2 (xa0 0) xaa)))
    (xa4 (xab xal (xbT hS) (xac xb9 (xeu hS) (xa0 0)) (xbl (xnX hS) (xar 1) (xa2 (xa0 2) (xa2 (xa0 3) xaa))))
    (xa4 (xab xaI (xdB hS) (xac xb9 (xeu hS) (xa0 0)) (xbl (xhN hS) (xar 2) (xa2 (xa0 2) (xa2 (xa0 3) xaa))))
    (xa4 (xab xbn (xh1 hS) (xa0 0) (xa0 1))
    (xa4 (xg8 (xac xbf (xeA hS) (xa0 1)) (xac xb6 (xej hS) (xa0 0)) (xa0 0))
    (xa4 (xaU (xas (xpe hS) (xar 3) (xa2 (xac xbv (xfN hS) (xa0 1)) (xa2 (xac xb9 (xeu hS) (xa0 0)) xaa))))
    xae))))))
theorem xtQ (hS : Std S) : xdd S 8 (.ref 371) xlP :=
  xaS (np := 4) (scope := xaJ (hd.heap_39 S.w.params) 371) ⟨_, _, _, _, _, _, _, _, _, _, _, by rw [hS.K]; rfl, by rw [hS.K]; rfl, fun vals h => by
    match vals, h with
    | [a0, a1, a2, a3], _ => rfl⟩ (by rfl) (xtz hS)
theorem xte (hS : Std S) : GFn S 8 "lay" xlP := ⟨.ref 371, by rw [hS.K]; rfl, by rw [hS.K]; rfl, xtQ hS⟩
theorem xq5 (hS : Std S) : GFn S 4 "Overlay" xgo := ⟨.ref (S.cadr 2), by rw [hS.K, hS.cadr]; rfl, by rw [hS.K, hS.cadr]; rfl, xgt (by rw [hS.K, hS.cadr]; rfl) (by rw [hS.K, hS.cadr]; rfl) (by rw [hS.K]; rfl) (xhF hS)⟩
def xiS : Gn := ⟨["Overlay", "lay"], []⟩
def xj9 : List Str := ["home", "number", "begin", "end", "front_advance", "rear_advance", "found"]
theorem xjH (hS : Std S) : SB S 8 xiS xj9 (xbd (hd.heap_39 S.w.params) 378) xdT :=
    (xa4 (xaz 6 (xas (xq5 hS) (xar 0) (xa2 (xa0 1) (xa2 (xa0 4) (xa2 (xa0 5) xaa)))))
    (xa4 (xaU (xas (xte hS) (xar 1) (xa2 (xa0 6) (xa2 (xa0 0) (xa2 (xa0 2) (xa2 (xa0 3) xaa))))))
    (xa4 (xbB (xa0 6))
    xae)))
theorem xke (hS : Std S) : xdd S 9 (.ref 378) xcp :=
  xaS (np := 6) (scope := xaJ (hd.heap_39 S.w.params) 378) ⟨_, _, _, _, _, _, _, _, _, _, _, by rw [hS.K]; rfl, by rw [hS.K]; rfl, fun vals h => by
    match vals, h with
    | [a0, a1, a2, a3, a4, a5], _ => rfl⟩ (by rfl) (xjH hS)
theorem xkc (hS : Std S) : GFn S 9 "made_overlay" xcp := ⟨.ref 378, by rw [hS.K]; rfl, by rw [hS.K]; rfl, xke hS⟩
def xit : Gn := ⟨["lay", "is_fleeting", "take_out"], []⟩
def xiF : List Str := ["overlay", "home", "begin", "end"]
theorem xin (hS : Std S) : SB S 8 xit xiF (xbd (hd.heap_39 S.w.params) 399) xdu :=
    (xa4 (xaU (xas (xte hS) (xar 0) (xa2 (xa0 0) (xa2 (xa0 1) (xa2 (xa0 2) (xa2 (xa0 3) xaa))))))
    (xa4 (xbM (xcw (xaQ (xa0 2) (xax xdK (xa0 3))) (xcw (xbm (xas (xhd hS) (xar 1) (xa2 (xac xc9 (xiL hS) (xa0 1)) (xa2 (xa0 0) xaa)))) xdJ)) (xa4 (xaU (xas (xgw hS) (xar 2) (xa2 (xa0 0) xaa)))
    xae) xae)
    xae))
theorem xji (hS : Std S) : xdd S 9 (.ref 399) xc6 :=
  xaS (np := 4) (scope := xaJ (hd.heap_39 S.w.params) 399) ⟨_, _, _, _, _, _, _, _, _, _, _, by rw [hS.K]; rfl, by rw [hS.K]; rfl, fun vals h => by
    match vals, h with
    | [a0, a1, a2, a3], _ => rfl⟩ (by rfl) (xin hS)
theorem xjk (hS : Std S) : GFn S 9 "moved_overlay" xc6 := ⟨.ref 399, by rw [hS.K]; rfl, by rw [hS.K]; rfl, xji hS⟩
def xk4 : Gn := ⟨["holds_pair", "plist_with", "overlay_begin", "overlay_end", "take_out"], []⟩
def xki : List Str := ["rules", "overlay", "number", "value", "changed"]
theorem xjY (hS : Std S) : SB S 7 xk4 xki (xbd (hd.heap_39 S.w.params) 406) xea :=
    (xa4 (xaz 4 (xqs (xas (xmj hS) (xar 0) (xa2 (xac xbK (xgC hS) (xa0 1)) (xa2 (xa0 2) (xa2 (xa0 3) xaa))))))
    (xa4 (xbM (xbm (xa0 4)) (xa4 (xab xbK (xgC hS) (xa0 1) (xas (xmw hS) (xar 1) (xa2 (xac xbK (xgC hS) (xa0 1)) (xa2 (xa0 2) (xa2 (xa0 3) xaa)))))
    xae) xae)
    (xa4 (xbM (xcw (xaQ (xa0 2) (xax xdK (xac xbH (xgk hS) (xa0 0)))) (xcw (xja (xbm (xif (xeo hS) (xa0 0) (xa2 (xa0 3) xaa)))) (xcw (xaQ (xac xbn (xh1 hS) (xa0 1)) (xax xbF xb4)) xdJ))) (xa4 (xbM (xaQ (xas (xgq hS) (xar 2) (xa2 (xa0 1) xaa)) (xax xdK (xas (xhk hS) (xar 3) (xa2 (xa0 1) xaa)))) (xa4 (xaU (xas (xgw hS) (xar 4) (xa2 (xa0 1) xaa)))
    xae) xae)
    xae) xae)
    (xa4 (xbB (xa0 4))
    xae))))
theorem xlC (hS : Std S) : xdd S 8 (.ref 406) xci :=
  xaS (np := 4) (scope := xaJ (hd.heap_39 S.w.params) 406) ⟨_, _, _, _, _, _, _, _, _, _, _, by rw [hS.K]; rfl, by rw [hS.K]; rfl, fun vals h => by
    match vals, h with
    | [a0, a1, a2, a3], _ => rfl⟩ (by rfl) (xjY hS)
theorem xl1 (hS : Std S) : GFn S 8 "overlay_put" xci := ⟨.ref 406, by rw [hS.K]; rfl, by rw [hS.K]; rfl, xlC hS⟩
def xkd : Gn := ⟨["of_nodes", "nodes_between"], ["at"]⟩
def xk2 : List Str := ["home", "at"]
def xiu : Gn := ⟨[], []⟩
theorem xk5 (hS : Std S) : SB S 2 xkd xk2 (xbd (hd.heap_39 S.w.params) 416) xee :=
    (xa4 (xbB (xas (xhS hS) (xar 0) (xa2 (xa0 0) (xa2 (xe0 [false, true] xiu (by rfl) (xas (xcU hS) (xar 1) (xa2 (xac xbv (xfN hS) (xa0 0)) (xa2 (xa0 1) (xa2 (xa0 1) xaa)))) (xdQ (xaQ (xac xal (xbT hS) (xa0 0)) (xd5 xl5 (xa0 2) (xax xeF (xac xaI (xdB hS) (xa0 0)))))) (xa0 0)) xaa))))
    xae)
theorem xkG (hS : Std S) : xdd S 3 (.ref 416) xcH :=
  xaS (np := 2) (scope := xaJ (hd.heap_39 S.w.params) 416) ⟨_, _, _, _, _, _, _, _, _, _, _, by rw [hS.K]; rfl, by rw [hS.K]; rfl, fun vals h => by
    match vals, h with
    | [a0, a1], _ => rfl⟩ (by rfl) (xk5 hS)
theorem xlG (hS : Std S) : GFn S 3 "overlays_at" xcH := ⟨.ref 416, by rw [hS.K]; rfl, by rw [hS.K]; rfl, xkG hS⟩
def xqy : Gn := ⟨[], []⟩
def xrr : List Str := ["node", "begin", "end", "is_at_end"]
theorem xr4 (hS : Std S) : SB S 0 xqy xrr (xbd (hd.heap_39 S.w.params) 423) xkE :=
    (xa4 (xbM (xaQ (xac xal (xbT hS) (xa0 0)) (xax xeF (xac xaI (xdB hS) (xa0 0)))) (xa4 (xbB (xkw (xcX (xac xal (xbT hS) (xa0 0)) (xax xeF (xa0 2))) (xf2 (xcX (xac xaI (xdB hS) (xa0 0)) (xax xmA (xa0 1))))))
    xae) xae)
    (xa4 (xbB (xps (xcX (xac xal (xbT hS) (xa0 0)) (xax xdK (xa0 1))) (xps (xcX (xa0 1) (xd5 xeF (xac xal (xbT hS) (xa0 0)) (xax xeF (xa0 2)))) (xf2 (xkw (xcX (xac xal (xbT hS) (xa0 0)) (xax xdK (xa0 2))) (xf2 (xa0 3)))))))
    xae))
theorem xrW (hS : Std S) : xdd S 1 (.ref 423) xi6 :=
  xaS (np := 4) (scope := xaJ (hd.heap_39 S.w.params) 423) ⟨_, _, _, _, _, _, _, _, _, _, _, by rw [hS.K]; rfl, by rw [hS.K]; rfl, fun vals h => by
    match vals, h with
    | [a0, a1, a2, a3], _ => rfl⟩ (by rfl) (xr4 hS)
theorem xst (hS : Std S) : GFn S 1 "is_in" xi6 := ⟨.ref 423, by rw [hS.K]; rfl, by rw [hS.K]; rfl, xrW hS⟩
def xjV : Gn := ⟨["nodes_between", "of_nodes"], ["begin", "end", "last"]⟩
def xjO : List Str := ["home", "begin", "end", "last", "found"]
def xii : Gn := ⟨["is_in"], []⟩
theorem xkp (hS : Std S) : SB S 2 xjV xjO (xbd (hd.heap_39 S.w.params) 428) xe9 :=
    (xa4 (xl3 4 [false, true, true, true, false] xii (by rfl) (xas (xcU hS) (xar 0) (xa2 (xac xbv (xfN hS) (xa0 0)) (xa2 (xa0 1) (xa2 (xa0 2) xaa)))) (xdQ (xbm (xas (xst hS) (xar 0) (xa2 (xa0 0) (xa2 (xa0 2) (xa2 (xa0 3) (xa2 (xcX (xa0 3) (xax xdK (xa0 4))) xaa))))))) (xa0 0))
    (xa4 (xbB (xas (xhS hS) (xar 1) (xa2 (xa0 0) (xa2 (xa0 4) xaa))))
    xae))
theorem xlm (hS : Std S) : xdd S 3 (.ref 428) xcE :=
  xaS (np := 4) (scope := xaJ (hd.heap_39 S.w.params) 428) ⟨_, _, _, _, _, _, _, _, _, _, _, by rw [hS.K]; rfl, by rw [hS.K]; rfl, fun vals h => by
    match vals, h with
    | [a0, a1, a2, a3], _ => rfl⟩ (by rfl) (xkp hS)
theorem xl6 (hS : Std S) : GFn S 3 "overlays_in" xcE := ⟨.ref 428, by rw [hS.K]; rfl, by rw [hS.K]; rfl, xlm hS⟩
def xfQ : Gn := ⟨["nodes_between"], []⟩
def xfV : List Str := ["home", "at", "last", "found", "node", "place"]
theorem xfY (hS : Std S) : SB S 2 xfQ xfV (xbd (hd.heap_39 S.w.params) 435) xce :=
    (xa4 (xaz 3 (xa0 2))
    (xa4 (xf1 4 (xas (xcU hS) (xar 0) (xa2 (xac xbv (xfN hS) (xa0 0)) (xa2 (xa0 1) (xa2 (xa0 2) xaa)))) (xa4 (xf1 5 (xey (xa2 (xac xal (xbT hS) (xa0 4)) (xa2 (xac xaI (xdB hS) (xa0 4)) xaa))) (xa4 (xbM (xaQ (xa0 1) (xd5 xeF (xa0 5) (xax xeF (xa0 3)))) (xa4 (xaz 3 (xa0 5))
    xae) xae)
    xae))
    xae))
    (xa4 (xbB (xa0 3))
    xae)))
theorem xgb (hS : Std S) : xdd S 3 (.ref 435) xbs :=
  xaS (np := 3) (scope := xaJ (hd.heap_39 S.w.params) 435) ⟨_, _, _, _, _, _, _, _, _, _, _, by rw [hS.K]; rfl, by rw [hS.K]; rfl, fun vals h => by
    match vals, h with
    | [a0, a1, a2], _ => rfl⟩ (by rfl) (xfY hS)
theorem xgf (hS : Std S) : GFn S 3 "next_overlay_change" xbs := ⟨.ref 435, by rw [hS.K]; rfl, by rw [hS.K]; rfl, xgb hS⟩
def xeG : Gn := ⟨["nodes_between"], []⟩
def xeK : List Str := ["home", "at", "first", "found", "node", "place"]
theorem xeH (hS : Std S) : SB S 2 xeG xeK (xbd (hd.heap_39 S.w.params) 442) xbW :=
    (xa4 (xaz 3 (xa0 2))
    (xa4 (xf1 4 (xas (xcU hS) (xar 0) (xa2 (xac xbv (xfN hS) (xa0 0)) (xa2 (xa0 2) (xa2 (xa0 1) xaa)))) (xa4 (xf1 5 (xey (xa2 (xac xal (xbT hS) (xa0 4)) (xa2 (xac xaI (xdB hS) (xa0 4)) xaa))) (xa4 (xbM (xaQ (xa0 3) (xd5 xeF (xa0 5) (xax xeF (xa0 1)))) (xa4 (xaz 3 (xa0 5))
    xae) xae)
    xae))
    xae))
    (xa4 (xbB (xa0 3))
    xae)))
theorem xf8 (hS : Std S) : xdd S 3 (.ref 442) xbg :=
  xaS (np := 3) (scope := xaJ (hd.heap_39 S.w.params) 442) ⟨_, _, _, _, _, _, _, _, _, _, _, by rw [hS.K]; rfl, by rw [hS.K]; rfl, fun vals h => by
    match vals, h with
    | [a0, a1, a2], _ => rfl⟩ (by rfl) (xeH hS)
theorem xfa (hS : Std S) : GFn S 3 "previous_overlay_change" xbg := ⟨.ref 442, by rw [hS.K]; rfl, by rw [hS.K]; rfl, xf8 hS⟩
def xgm : Gn := ⟨[], []⟩
def xgs : List Str := ["self", "first"]
theorem xg6 (hS : Std S) : SB S 0 xgm xgs (xbd (hd.heap_39 S.w.params) 464) xe3 :=
    (xa4 (xab xhD (xoF hS) (xa0 0) (xa0 1))
    (xa4 (xab xf4 (xmg hS) (xa0 0) xb4)
    (xa4 (xab xh0 (xni hS) (xa0 0) xbZ)
    (xa4 (xab xj1 (xpu hS) (xa0 0) xiM)
    xae))))
theorem xgG (hS : Std S) : xdd S 1 (.ref 464) xe4 :=
  xaS (np := 2) (scope := xaJ (hd.heap_39 S.w.params) 464) ⟨_, _, _, _, _, _, _, _, _, _, _, by rw [hS.K]; rfl, by rw [hS.K]; rfl, fun vals h => by
    match vals, h with
    | [a0, a1], _ => rfl⟩ (by rfl) (xg6 hS)
def xmh : Gn := ⟨["len"], []⟩
def xlT : List Str := ["deck", "many"]
theorem xlW (hS : Std S) : SB S 0 xmh xlT (xbd (hd.heap_39 S.w.params) 527) xdG :=
    (xa4 (xg8 (xa0 0) xaH (xbS xdt (xbN (xa0 0) xaH) xaH))
    (xa4 (xbM (xaQ (xbN (xa0 0) xaH) (xax xl5 (xbl (xi8 hS) (xar 0) (xa2 (xbN (xa0 0) xaH) xaa)))) (xa4 (xbB (xbS xrE (xbN (xbN (xa0 0) xaH) (xbS xhx (xbN (xa0 0) xaH) xaH)) (xa0 1)))
    xae) xae)
    (xa4 (xbB (xbS xrE (xbS xtc (xbS xdt (xbS xdt (xbS xoK (xbS xoK (xbN (xa0 0) xaH) (xbN (xa0 0) xaH)) xaH) (xbS xoK xaH (xbN (xa0 0) xaH))) (xbS xoK xaH (xbl (xi8 hS) (xar 0) (xa2 (xbN (xa0 0) xaH) xaa)))) xaH) (xa0 1)))
    xae)))
theorem xnJ (hS : Std S) : xdd S 1 (.ref 527) xaF :=
  xaS (np := 2) (scope := xaJ (hd.heap_39 S.w.params) 527) ⟨_, _, _, _, _, _, _, _, _, _, _, by rw [hS.K]; rfl, by rw [hS.K]; rfl, fun vals h => by
    match vals, h with
    | [a0, a1], _ => rfl⟩ (by rfl) (xlW hS)
theorem xbz (hS : Std S) : GFn S 1 "_law_draw" xaF := ⟨.ref 527, by rw [hS.K]; rfl, by rw [hS.K]; rfl, xnJ hS⟩
def xl8 : Gn := ⟨["len", "_law_draw", "made_overlay", "min", "overlay_put"], []⟩
def xlz : List Str := ["deck", "home", "own", "overlays", "number", "begin", "many", "way"]
theorem xlw (hS : Std S) : SB S 9 xl8 xlz (xbd (hd.heap_39 S.w.params) 534) xeQ :=
    (xa4 (xdr [4, 5, 6, 7] (xey (xa2 (xbl (xi8 hS) (xar 0) (xa2 (xa0 3) xaa)) (xa2 (xas (xbz hS) (xar 1) (xa2 (xa0 0) (xa2 xaH xaa))) (xa2 (xas (xbz hS) (xar 1) (xa2 (xa0 0) (xa2 xaH xaa))) (xa2 (xas (xbz hS) (xar 1) (xa2 (xa0 0) (xa2 xaH xaa))) xaa))))))
    (xa4 (xaU (xet PySem.F.slot_list_append PySem.F.type_list_append xgy (xa0 3) (xas (xkc hS) (xar 2) (xa2 (xa0 1) (xa2 (xa0 4) (xa2 (xa0 5) (xa2 (xbl (xnX hS) (xar 3) (xa2 xaH (xa2 (xbS xdt (xa0 5) (xa0 6)) xaa))) (xa2 (xcX (xas (xbz hS) (xar 1) (xa2 (xa0 0) (xa2 xaH xaa))) (xax xdK xaH)) (xa2 (xcX (xa0 7) (xax xdK xaH)) xaa)))))))))
    (xa4 (xg8 (xa0 2) (xa0 4) (xcD (xa2 (xa0 5) (xa2 (xbl (xnX hS) (xar 3) (xa2 xaH (xa2 (xbS xdt (xa0 5) (xa0 6)) xaa))) (xa2 (xcX (xa0 7) (xax xdK xaH)) xaa)))))
    (xa4 (xbM (xaQ (xa0 7) (xax xdK xaH)) (xa4 (xaU (xas (xl1 hS) (xar 4) (xa2 (xac xc9 (xiL hS) (xa0 1)) (xa2 (xbN (xa0 3) (xa0 4)) (xa2 xaH (xa2 xbZ xaa))))))
    (xa4 (xbM (xaQ (xa0 6) (xax xdK xaH)) (xa4 (xpw (xa0 2) (xa0 4))
    xae) xae)
    xae)) xae)
    xae))))
theorem xmK (hS : Std S) : xdd S 10 (.ref 534) xcW :=
  xaS (np := 4) (scope := xaJ (hd.heap_39 S.w.params) 534) ⟨_, _, _, _, _, _, _, _, _, _, _, by rw [hS.K]; rfl, by rw [hS.K]; rfl, fun vals h => by
    match vals, h with
    | [a0, a1, a2, a3], _ => rfl⟩ (by rfl) (xlw hS)
theorem xmT (hS : Std S) : GFn S 10 "_law_fresh" xcW := ⟨.ref 534, by rw [hS.K]; rfl, by rw [hS.K]; rfl, xmK hS⟩
def xlQ : Gn := ⟨["_law_draw", "sorted"], ["at", "many"]⟩
def xmR : List Str := ["deck", "home", "own", "at", "many", "number", "begin", "end", "my_is_fleeting"]
def xk3 : Gn := ⟨["max"], []⟩
theorem xmZ (hS : Std S) : SB S 9 xlQ xmR (xbd (hd.heap_39 S.w.params) 539) xfw :=
    (xa4 (xdr [3, 4] (xey (xa2 (xas (xbz hS) (xar 0) (xa2 (xa0 0) (xa2 xaH xaa))) (xa2 (xbS xdt xaH (xas (xbz hS) (xar 0) (xa2 (xa0 0) (xa2 xaH xaa)))) xaa))))
    (xa4 (xaU (xif (xg1 hS) (xa0 1) (xa2 (xa0 3) (xa2 (xbS xdt (xa0 3) (xa0 4)) xaa))))
    (xa4 (xf1 5 (xbl (xel hS) (xar 1) (xa2 (xa0 2) xaa)) (xa4 (xdr [6, 7, 8] (xbN (xa0 2) (xa0 5)))
    (xa4 (xdr [6, 7] (xe0 [false, false, false, true, true, false, false, false, false] xk3 (by rfl) (xey (xa2 (xa0 6) (xa2 (xa0 7) xaa))) xfh (xiD (xaQ (xa0 0) (xax xl5 (xa0 4))) (xa0 0) (xbl (xhN hS) (xar 0) (xa2 (xa0 4) (xa2 (xbS xhx (xa0 0) (xa0 5)) xaa))))))
    (xa4 (xg8 (xa0 2) (xa0 5) (xcD (xa2 (xa0 6) (xa2 (xa0 7) (xa2 (xa0 8) xaa)))))
    (xa4 (xbM (xcw (xaQ (xa0 6) (xd5 xdK (xa0 7) (xax xdK (xa0 3)))) (xcw (xbm (xa0 8)) xdJ)) (xa4 (xpw (xa0 2) (xa0 5))
    xae) xae)
    xae)))))
    xae)))
theorem xnF (hS : Std S) : xdd S 10 (.ref 539) xdO :=
  xaS (np := 3) (scope := xaJ (hd.heap_39 S.w.params) 539) ⟨_, _, _, _, _, _, _, _, _, _, _, by rw [hS.K]; rfl, by rw [hS.K]; rfl, fun vals h => by
    match vals, h with
    | [a0, a1, a2], _ => rfl⟩ (by rfl) (xmZ hS)
theorem xo0 (hS : Std S) : GFn S 10 "_law_gone" xdO := ⟨.ref 539, by rw [hS.K]; rfl, by rw [hS.K]; rfl, xnF hS⟩
def xll : Gn := ⟨["_law_draw", "len", "moved_overlay"], []⟩
def xlg : List Str := ["deck", "home", "own", "overlays", "number", "begin", "many", "my_is_fleeting"]
theorem xkP (hS : Std S) : SB S 9 xll xlg (xbd (hd.heap_39 S.w.params) 546) xeR :=
    (xa4 (xdr [4, 5, 6] (xey (xa2 (xas (xbz hS) (xar 0) (xa2 (xa0 0) (xa2 (xbl (xi8 hS) (xar 1) (xa2 (xa0 3) xaa)) xaa))) (xa2 (xas (xbz hS) (xar 0) (xa2 (xa0 0) (xa2 xaH xaa))) (xa2 (xas (xbz hS) (xar 0) (xa2 (xa0 0) (xa2 xaH xaa))) xaa)))))
    (xa4 (xaz 7 (xcX (xac xbK (xgC hS) (xbN (xa0 3) (xa0 4))) (xax xp9 (xcD xaa))))
    (xa4 (xaU (xas (xjk hS) (xar 2) (xa2 (xbN (xa0 3) (xa0 4)) (xa2 (xa0 1) (xa2 (xa0 5) (xa2 (xbS xdt (xa0 5) (xa0 6)) xaa))))))
    (xa4 (xg8 (xa0 2) (xa0 4) (xcD (xa2 (xa0 5) (xa2 (xbS xdt (xa0 5) (xa0 6)) (xa2 (xa0 7) xaa)))))
    (xa4 (xbM (xcw (xaQ (xa0 6) (xax xdK xaH)) (xcw (xbm (xa0 7)) xdJ)) (xa4 (xpw (xa0 2) (xa0 4))
    xae) xae)
    xae)))))
theorem xmd (hS : Std S) : xdd S 10 (.ref 546) xcS :=
  xaS (np := 4) (scope := xaJ (hd.heap_39 S.w.params) 546) ⟨_, _, _, _, _, _, _, _, _, _, _, by rw [hS.K]; rfl, by rw [hS.K]; rfl, fun vals h => by
    match vals, h with
    | [a0, a1, a2, a3], _ => rfl⟩ (by rfl) (xkP hS)
theorem xmX (hS : Std S) : GFn S 10 "_law_moved" xcS := ⟨.ref 546, by rw [hS.K]; rfl, by rw [hS.K]; rfl, xmd hS⟩
def xjm : Gn := ⟨["range"], ["row"]⟩
def xiP : List Str := ["row", "begin", "end", "last"]
def xhY : Gn := ⟨[], []⟩
theorem xjl (hS : Std S) : SB S 0 xjm xiP (xbd (hd.heap_39 S.w.params) 551) xcI :=
    (xa4 (xbM (xaQ (xbN (xa0 0) xaH) (xax xeF (xbN (xa0 0) xaH))) (xa4 (xbB (xps (xcX (xe0 [true, false, false, false] xhY (by rfl) (xbl (xlA hS) (xar 0) (xa2 (xa0 1) (xa2 (xa0 2) xaa))) (xdQ (xaQ (xbN (xa0 1) xaH) (xd5 xl5 (xa0 0) (xax xeF (xbN (xa0 1) xaH))))) (xa0 0)) (xax xp9 (xcD xaa))) (xf2 (xcX (xbN (xa0 0) xaH) (xd5 xeF (xa0 1) (xd5 xdK (xa0 2) (xax xeF (xbN (xa0 0) xaH))))))))
    xae) xae)
    (xa4 (xbB (xps (xcX (xbN (xa0 0) xaH) (xax xdK (xa0 1))) (xps (xcX (xa0 1) (xd5 xeF (xbN (xa0 0) xaH) (xax xeF (xa0 2)))) (xf2 (xcX (xbN (xa0 0) xaH) (xd5 xdK (xa0 2) (xax xdK (xa0 3))))))))
    xae))
theorem xkg (hS : Std S) : xdd S 1 (.ref 551) xc1 :=
  xaS (np := 4) (scope := xaJ (hd.heap_39 S.w.params) 551) ⟨_, _, _, _, _, _, _, _, _, _, _, by rw [hS.K]; rfl, by rw [hS.K]; rfl, fun vals h => by
    match vals, h with
    | [a0, a1, a2, a3], _ => rfl⟩ (by rfl) (xjl hS)
theorem xkm (hS : Std S) : GFn S 1 "_law_touches" xc1 := ⟨.ref 551, by rw [hS.K]; rfl, by rw [hS.K]; rfl, xkg hS⟩
theorem xlh (hS : Std S) : GFn S 4 "OverlayHome" xfz := ⟨.ref (S.cadr 3), by rw [hS.K, hS.cadr]; rfl, by rw [hS.K, hS.cadr]; rfl, xgt (by rw [hS.K, hS.cadr]; rfl) (by rw [hS.K, hS.cadr]; rfl) (by rw [hS.K]; rfl) (xfT hS)⟩
theorem xo8 (hS : Std S) : GFn S 3 "PropRules" xh4 := ⟨.ref (S.cadr 4), by rw [hS.K, hS.cadr]; rfl, by rw [hS.K, hS.cadr]; rfl, xgt (by rw [hS.K, hS.cadr]; rfl) (by rw [hS.K, hS.cadr]; rfl) (by rw [hS.K]; rfl) (xgJ hS)⟩
theorem xne (hS : Std S) : GFn S 2 "PlainLisp" xgT := ⟨.ref (S.cadr 5), by rw [hS.K, hS.cadr]; rfl, by rw [hS.K, hS.cadr]; rfl, xgt (by rw [hS.K, hS.cadr]; rfl) (by rw [hS.K, hS.cadr]; rfl) (by rw [hS.K]; rfl) (xgG hS)⟩
def xq1 : Gn := ⟨["OverlayHome", "PropRules", "PlainLisp", "range", "_law_draw", "_law_fresh", "_law_gone", "_law_moved", "sorted", "overlay_begin", "overlay_end", "overlays_at", "overlays_in", "next_overlay_change", "previous_overlay_change", "min", "max"], ["own", "at", "begin", "end", "last"]⟩
def xiT : List Str := ["script", "deck", "home", "own", "overlays", "my_turn", "number", "at", "begin", "end", "last", "places", "later", "earlier"]
def xqY : Gn := ⟨[], []⟩
def xqG : Gn := ⟨[], []⟩
def xqz : Gn := ⟨[], []⟩
def xrx : Gn := ⟨["_law_touches"], []⟩
def xqF : Gn := ⟨[], []⟩
def xrm : Gn := ⟨[], []⟩
def xqC : Gn := ⟨["abs"], []⟩
theorem xtb (hS : Std S) : SB S 10 xq1 xiT (xbd (hd.heap_39 S.w.params) 556) xsJ :=
    (xa4 (xaz 1 (xcD (xa2 (xe0 [false, false, false, false, false, false, false, false, false, false, false, false, false, false] xqC (by rfl) (xob (xa0 0)) xfh (xbl (xsZ hS) (xar 0) (xa2 (xa0 0) xaa))) (xa2 xaH xaa))))
    (xa4 (xdr [2, 3, 4] (xey (xa2 (xas (xlh hS) (xar 0) (xa2 (xas (xo8 hS) (xar 1) (xa2 (xas (xne hS) (xar 2) (xa2 xaH xaa)) xaa)) xaa)) (xa2 xiM (xa2 (xcD xaa) xaa)))))
    (xa4 (xf1 5 (xbl (xlA hS) (xar 3) (xa2 (xbS xdt xaH (xas (xbz hS) (xar 4) (xa2 (xa0 1) (xa2 xaH xaa)))) xaa)) (xa4 (xaU (xas (xmT hS) (xar 5) (xa2 (xa0 1) (xa2 (xa0 2) (xa2 (xa0 3) (xa2 (xa0 4) xaa))))))
    xae))
    (xa4 (xbM (xaQ (xas (xbz hS) (xar 4) (xa2 (xa0 1) (xa2 xaH xaa))) (xax xdK xaH)) (xa4 (xaU (xas (xo0 hS) (xar 6) (xa2 (xa0 1) (xa2 (xa0 2) (xa2 (xa0 3) xaa)))))
    xae) xae)
    (xa4 (xbM (xaQ (xas (xbz hS) (xar 4) (xa2 (xa0 1) (xa2 xaH xaa))) (xax xdK xaH)) (xa4 (xaU (xas (xmX hS) (xar 7) (xa2 (xa0 1) (xa2 (xa0 2) (xa2 (xa0 3) (xa2 (xa0 4) xaa))))))
    xae) xae)
    (xa4 (xbM (xaQ (xbl (xel hS) (xar 8) (xa2 (xac xbf (xeA hS) (xa0 2)) xaa)) (xax xp9 (xbl (xel hS) (xar 8) (xa2 (xa0 3) xaa)))) (xa4 (xbB xbZ)
    xae) xae)
    (xa4 (xf1 6 (xa0 3) (xa4 (xbM (xaQ (xcD (xa2 (xas (xgq hS) (xar 9) (xa2 (xbN (xa0 4) (xa0 6)) xaa)) (xa2 (xas (xhk hS) (xar 10) (xa2 (xbN (xa0 4) (xa0 6)) xaa)) xaa))) (xax xp9 (xob (xbN (xa0 3) (xa0 6))))) (xa4 (xbB xbZ)
    xae) xae)
    xae))
    (xa4 (xdr [7, 8] (xey (xa2 (xas (xbz hS) (xar 4) (xa2 (xa0 1) (xa2 xaH xaa))) (xa2 (xas (xbz hS) (xar 4) (xa2 (xa0 1) (xa2 xaH xaa))) xaa))))
    (xa4 (xdr [9, 10] (xey (xa2 (xbS xdt (xa0 8) (xas (xbz hS) (xar 4) (xa2 (xa0 1) (xa2 (xbS xhx xaH (xa0 8)) xaa)))) (xa2 (xbS xhx xaH (xas (xbz hS) (xar 4) (xa2 (xa0 1) (xa2 xaH xaa)))) xaa))))
    (xa4 (xbM (xaQ (xbl (xel hS) (xar 8) (xa2 (xe0 [false, false, false, false, false, false, false, false, false, false, false, false, false, false] xqF (by rfl) (xas (xlG hS) (xar 11) (xa2 (xa0 2) (xa2 (xa0 7) xaa))) xfh (xac xb6 (xej hS) (xa0 0))) xaa)) (xax xp9 (xe0 [false, false, false, true, false, false, false, true, false, false, false, false, false, false] xrm (by rfl) (xbl (xel hS) (xar 8) (xa2 (xa0 3) xaa)) (xdQ (xaQ (xbN (xbN (xa0 4) (xa0 0)) xaH) (xd5 xl5 (xa0 8) (xax xeF (xbN (xbN (xa0 4) (xa0 0)) xaH))))) (xa0 0)))) (xa4 (xbB xbZ)
    xae) xae)
    (xa4 (xbM (xaQ (xbl (xel hS) (xar 8) (xa2 (xe0 [false, false, false, false, false, false, false, false, false, false, false, false, false, false] xqz (by rfl) (xas (xl6 hS) (xar 12) (xa2 (xa0 2) (xa2 (xa0 8) (xa2 (xa0 9) (xa2 (xa0 10) xaa))))) xfh (xac xb6 (xej hS) (xa0 0))) xaa)) (xax xp9 (xe0 [false, false, false, true, false, false, false, false, true, true, true, false, false, false] xrx (by rfl) (xbl (xel hS) (xar 8) (xa2 (xa0 3) xaa)) (xdQ (xbm (xas (xkm hS) (xar 0) (xa2 (xbN (xa0 4) (xa0 0)) (xa2 (xa0 9) (xa2 (xa0 10) (xa2 (xa0 11) xaa))))))) (xa0 0)))) (xa4 (xbB xbZ)
    xae) xae)
    (xa4 (xaz 11 (xcD xaa))
    (xa4 (xf1 6 (xa0 3) (xa4 (xaU (xet PySem.F.slot_list_extend PySem.F.type_list_extend xqE (xa0 11) (xob (xbN (xa0 3) (xa0 6)))))
    xae))
    (xa4 (xdr [12, 13] (xey (xa2 (xe0 [false, false, false, false, false, false, false, true, false, false, false, false, false, false] xqG (by rfl) (xa0 11) (xdQ (xaQ (xa0 8) (xd5 xeF (xa0 0) (xax xeF xaH)))) (xa0 0)) (xa2 (xe0 [false, false, false, false, false, false, false, true, false, false, false, false, false, false] xqY (by rfl) (xa0 11) (xdQ (xaQ xaH (xd5 xeF (xa0 0) (xax xeF (xa0 8))))) (xa0 0)) xaa))))
    (xa4 (xbB (xcX (xcD (xa2 (xas (xgf hS) (xar 13) (xa2 (xa0 2) (xa2 (xa0 7) (xa2 xaH xaa)))) (xa2 (xas (xfa hS) (xar 14) (xa2 (xa0 2) (xa2 (xa0 7) (xa2 xaH xaa)))) xaa))) (xax xdK (xcD (xa2 (xbl (xsv hS) (xar 15) (xa2 (xbS xqt (xa0 12) (xcD (xa2 xaH xaa))) xaa)) (xa2 (xbl (xsq hS) (xar 16) (xa2 (xbS xqt (xa0 13) (xcD (xa2 xaH xaa))) xaa)) xaa))))))
    xae)))))))))))))))
end
section
open PySem
inductive FE where
  | var (k : Nat) | add (a b : FE) | mx (a b : FE) | lit (k : Int)
  deriving Inhabited
def FE.ev (v : Nat → Int) : FE → Int
  | .var k => v k
  | .add a b => a.ev v + b.ev v
  | .mx a b => if b.ev v > a.ev v then b.ev v else a.ev v
  | .lit k => k
inductive FV where
  | none | bool (b : Bool) | int (e : FE) | ref (i : Nat) | tup (vs : List FV) | opq (k : Nat)
  deriving Inhabited
inductive FO where
  | inst (c : Nat) (fs : List FV) | list (vs : List FV) | flist (vs : List FV)
abbrev FS := List FO
abbrev FM (α : Type) := FS → Option (α × FS)
abbrev xaB := List (Option FV)
inductive FF | next | ret (v : FV)
def xfU {α β : Type} (m : Option (α × FS)) (f : α → FS → Option (β × FS)) : Option (β × FS) := match m with
  | some (a, σ) => f a σ
  | none => none
theorem xaO {α β : Type} {m : Option (α × FS)} {f : α → FS → Option (β × FS)} {r : β × FS} (h : xfU m f = some r) : ∃ a σ, m = some (a, σ) ∧ f a σ = some r := by
  unfold xfU at h
  split at h
  · exact ⟨_, _, rfl, h⟩
  · cases h
section
variable (ρ : List Nat) (v : Nat → Int) (o : Nat → PV)
inductive FVR : FV → PV → Prop
  | none : FVR .none .none
  | bool (b) : FVR (.bool b) (.bool b)
  | int (e : FE) (k : Int) : k = e.ev v → FVR (.int e) (.int k)
  | ref (i a) : ρ[i]? = some a → FVR (.ref i) (.ref a)
  | tup (vs : List FV) (ps : List PV) : vs.length = ps.length → (∀ (k : Nat) x p, vs[k]? = some x → ps[k]? = some p → FVR x p) → FVR (.tup vs) (.tup ps)
  | opq (k) : FVR (.opq k) (o k)
def xgz (vs : List FV) (ps : List PV) : Prop := vs.length = ps.length ∧ ∀ (k : Nat) x p, vs[k]? = some x → ps[k]? = some p → FVR ρ v o x p
def FOR : FO → xg2 → Prop
  | .inst c fs, .inst c' gs => c = c' ∧ xgz ρ v o fs gs
  | .list vs, .list ws => xgz ρ v o vs ws
  | .flist vs, .flist ws => xgz ρ v o vs ws
  | _, _ => False
structure xia (fs : FS) (σ : St) : Prop where
  len : ρ.length = fs.length
  nodup : ρ.Nodup
  lt : ∀ a ∈ ρ, a < σ.next
  obj : ∀ (i : Nat) (a : Nat) (x : FO), ρ[i]? = some a → fs[i]? = some x → FOR ρ v o x (σ.objs a)
def FrR (ffr : xaB) (fr : xa6) : Prop := ffr.length = fr.length ∧ ∀ (k : Nat) x, ffr[k]? = some (some x) → ∃ p, fr[k]? = some (some p) ∧ FVR ρ v o x p
end
structure xkV (ρ : List Nat) (σ : St) (ρ' : List Nat) (σ' : St) : Prop where
  pre : ∀ (i a : Nat), ρ[i]? = some a → ρ'[i]? = some a
  next : σ.next ≤ σ'.next
  old : ∀ a, a < σ.next → a ∉ ρ → σ'.objs a = σ.objs a
  new : ∀ a ∈ ρ', a ∈ ρ ∨ σ.next ≤ a
variable {ρ ρ' ρ'' : List Nat} {v : Nat → Int} {o : Nat → PV} {σ σ' σ'' : St}
theorem xkV.refl : xkV ρ σ ρ σ := ⟨fun _ _ h => h, Nat.le_refl _, fun _ _ _ => rfl, fun _ h => .inl h⟩
theorem xkV.trans (a : xkV ρ σ ρ' σ') (b : xkV ρ' σ' ρ'' σ'') : xkV ρ σ ρ'' σ'' :=
  ⟨fun i x h => b.pre i x (a.pre i x h), Nat.le_trans a.next b.next, fun x h1 h2 => by
    rw [b.old x (Nat.lt_of_lt_of_le h1 a.next) fun q => ?_]
    · exact a.old x h1 h2
    · rcases a.new x q with q | q
      · exact h2 q
      · exact absurd h1 (Nat.not_lt.mpr q),
   fun x h => by
    rcases b.new x h with q | q
    · exact a.new x q
    · exact .inr (Nat.le_trans a.next q)⟩
theorem FVR.mono (hp : ∀ (i a : Nat), ρ[i]? = some a → ρ'[i]? = some a) {x : FV} {p : PV} (h : FVR ρ v o x p) : FVR ρ' v o x p := by
  induction h with
  | none => exact .none
  | bool b => exact .bool b
  | int e k h => exact .int e k h
  | ref i a h => exact .ref i a (hp _ _ h)
  | tup vs ps h1 h2 ih => exact .tup vs ps h1 ih
  | opq k => exact .opq k
theorem xgz.mono (hp : ∀ (i a : Nat), ρ[i]? = some a → ρ'[i]? = some a) {x : List FV} {p : List PV} (h : xgz ρ v o x p) : xgz ρ' v o x p :=
  ⟨h.1, fun k a b c e => (h.2 k a b c e).mono hp⟩
theorem FOR.mono (hp : ∀ (i a : Nat), ρ[i]? = some a → ρ'[i]? = some a) {x : FO} {p : xg2} (h : FOR ρ v o x p) : FOR ρ' v o x p := by
  cases x <;> cases p <;> first | exact h.elim | exact ⟨h.1, xgz.mono hp h.2⟩ | exact xgz.mono hp h
theorem FrR.mono (hp : ∀ (i a : Nat), ρ[i]? = some a → ρ'[i]? = some a) {x : xaB} {p : xa6} (h : FrR ρ v o x p) : FrR ρ' v o x p :=
  ⟨h.1, fun k a e => let ⟨q, e', hq⟩ := h.2 k a e; ⟨q, e', hq.mono hp⟩⟩
theorem xgz.nil : xgz ρ v o [] [] := ⟨rfl, fun _ _ _ h => by simp at h⟩
theorem xgz.cons {x p xs ps} (h : FVR ρ v o x p) (t : xgz ρ v o xs ps) : xgz ρ v o (x :: xs) (p :: ps) := ⟨by simp [t.1], fun k a b e1 e2 => by
  cases k with
  | zero => simp at e1 e2; subst e1 e2; exact h
  | succ k => simp at e1 e2; exact t.2 k a b e1 e2⟩
theorem xgz.get {xs ps} (h : xgz ρ v o xs ps) {k : Nat} {x} (e : xs[k]? = some x) : ∃ p, ps[k]? = some p ∧ FVR ρ v o x p := by
  have hk : k < ps.length := by rw [← h.1]; exact (List.getElem?_eq_some_iff.mp e).1
  exact ⟨ps[k], by simp [hk], h.2 k x _ e (by simp [hk])⟩
theorem xgz.set {xs ps} (h : xgz ρ v o xs ps) {x p} (hx : FVR ρ v o x p) (k : Nat) : xgz ρ v o (xs.set k x) (ps.set k p) := by
  refine ⟨by simp [h.1], fun j a b e1 e2 => ?_⟩
  rw [List.getElem?_set] at e1 e2
  by_cases q : k = j
  · rw [if_pos q] at e1 e2
    by_cases q2 : k < xs.length
    · rw [if_pos q2] at e1; rw [if_pos (h.1 ▸ q2)] at e2; cases e1; cases e2; exact hx
    · rw [if_neg q2] at e1; cases e1
  · rw [if_neg q] at e1 e2; exact h.2 j a b e1 e2
theorem xgz.append {xs ps ys qs} (h : xgz ρ v o xs ps) (k : xgz ρ v o ys qs) : xgz ρ v o (xs ++ ys) (ps ++ qs) := by
  refine ⟨by rw [List.length_append, List.length_append, h.1, k.1], fun j a b e1 e2 => ?_⟩
  rcases Nat.lt_or_ge j xs.length with q | q
  · rw [List.getElem?_append_left q] at e1
    rw [List.getElem?_append_left (h.1 ▸ q)] at e2
    exact h.2 j a b e1 e2
  · rw [List.getElem?_append_right q] at e1
    rw [List.getElem?_append_right (h.1 ▸ q), ← h.1] at e2
    exact k.2 _ a b e1 e2
theorem xgz.reverse {xs ps} (h : xgz ρ v o xs ps) : xgz ρ v o xs.reverse ps.reverse := by
  induction xs generalizing ps with
  | nil => cases ps with | nil => exact .nil | cons _ _ => exact absurd h.1 (by simp)
  | cons x xs ih =>
    cases ps with
    | nil => exact absurd h.1 (by simp)
    | cons p ps =>
      rw [List.reverse_cons, List.reverse_cons]
      exact (ih ⟨by have := h.1; simpa using this, fun k a b e1 e2 => h.2 (k + 1) a b (by simpa using e1) (by simpa using e2)⟩).append (.cons (h.2 0 _ _ rfl rfl) .nil)
theorem xia.set (R : xia ρ v o fs σ) {i a : Nat} {x : FO} {y : xg2} (ha : ρ[i]? = some a) (h : FOR ρ v o x y) : xia ρ v o (fs.set i x) (σ.set a y) ∧ xkV ρ σ ρ (σ.set a y) := by
  have hm : a ∈ ρ := List.mem_of_getElem? ha
  refine ⟨⟨by rw [List.length_set]; exact R.len, R.nodup, R.lt, fun j b z e1 e2 => ?_⟩, fun _ _ h => h, Nat.le_refl _, fun b h1 h2 => ?_, fun _ h => .inl h⟩
  · show FOR ρ v o z (if b = a then y else σ.objs b)
    rw [List.getElem?_set] at e2
    by_cases q : i = j
    · rw [if_pos q] at e2
      split at e2
      · cases e2
        have : b = a := by rw [← q, ha] at e1; exact (Option.some.inj e1).symm
        rw [if_pos this]; exact h
      · cases e2
    · rw [if_neg q] at e2
      have : b ≠ a := fun z => q ((List.getElem?_inj (List.getElem?_eq_some_iff.mp ha).1 R.nodup).mp (by rw [ha, e1, z]))
      rw [if_neg this]; exact R.obj j b z e1 e2
  · show (if b = a then y else σ.objs b) = _
    rw [if_neg (fun q : b = a => h2 (by rw [q]; exact hm))]
theorem xia.push (R : xia ρ v o fs σ) {x : FO} {y : xg2} (h : FOR (ρ ++ [σ.next]) v o x y) : xia (ρ ++ [σ.next]) v o (fs ++ [x]) (σ.push y) ∧ xkV ρ σ (ρ ++ [σ.next]) (σ.push y) := by
  have hp : ∀ (i a : Nat), ρ[i]? = some a → (ρ ++ [σ.next])[i]? = some a := fun i a e => by rw [List.getElem?_append_left (List.getElem?_eq_some_iff.mp e).1]; exact e
  have hnm : σ.next ∉ ρ := fun q => Nat.lt_irrefl _ (R.lt _ q)
  refine ⟨⟨by simp [R.len], List.nodup_append.mpr ⟨R.nodup, by simp, fun a ha b hb q => hnm (by rw [List.mem_singleton.mp hb] at q; rw [← q]; exact ha)⟩, fun a ha => ?_, fun j b z e1 e2 => ?_⟩, hp, Nat.le_succ _, fun b h1 h2 => ?_, fun a ha => ?_⟩
  · rcases List.mem_append.mp ha with q | q
    · exact Nat.lt_succ_of_lt (R.lt a q)
    · rw [List.mem_singleton.mp q]; exact Nat.lt_succ_self _
  · show FOR _ v o z (if b = σ.next then y else σ.objs b)
    rcases Nat.lt_or_ge j ρ.length with q | q
    · rw [List.getElem?_append_left q] at e1
      rw [List.getElem?_append_left (R.len ▸ q)] at e2
      rw [if_neg (Nat.ne_of_lt (R.lt b (List.mem_of_getElem? e1)))]
      exact (R.obj j b z e1 e2).mono hp
    · rw [List.getElem?_append_right q] at e1
      rw [List.getElem?_append_right (R.len ▸ q)] at e2
      have hj : j - ρ.length = 0 := by
        have := (List.getElem?_eq_some_iff.mp e1).1
        simp at this; omega
      rw [hj] at e1
      rw [← R.len, hj] at e2
      cases e1; cases e2
      rw [if_pos rfl]; exact h
  · show (if b = σ.next then y else σ.objs b) = _
    rw [if_neg (Nat.ne_of_lt h1)]
  · rcases List.mem_append.mp ha with q | q
    · exact .inl q
    · rw [List.mem_singleton.mp q]; exact .inr (Nat.le_refl _)
end
section
open PySem
def QE (m : xa6 → M PV) (f : xaB → FM FV) : Prop := ∀ ρ v o ffr fr fs σ x fs', FrR ρ v o ffr fr → xia ρ v o fs σ → f ffr fs = some (x, fs') →
  ∃ ρ' p σ', m fr σ = some (p, σ') ∧ xia ρ' v o fs' σ' ∧ xkV ρ σ ρ' σ' ∧ FVR ρ' v o x p
def QT (m : xa6 → M Bool) (f : xaB → FM Bool) : Prop := ∀ ρ v o ffr fr fs σ x fs', FrR ρ v o ffr fr → xia ρ v o fs σ → f ffr fs = some (x, fs') →
  ∃ ρ' σ', m fr σ = some (x, σ') ∧ xia ρ' v o fs' σ' ∧ xkV ρ σ ρ' σ'
def QEs (m : xa6 → M (List PV)) (f : xaB → FM (List FV)) : Prop := ∀ ρ v o ffr fr fs σ x fs', FrR ρ v o ffr fr → xia ρ v o fs σ → f ffr fs = some (x, fs') →
  ∃ ρ' p σ', m fr σ = some (p, σ') ∧ xia ρ' v o fs' σ' ∧ xkV ρ σ ρ' σ' ∧ xgz ρ' v o x p
def FFR (ρ : List Nat) (v : Nat → Int) (o : Nat → PV) : FF → FR → Prop
  | .next, .next => True
  | .ret x, .ret p => FVR ρ v o x p
  | _, _ => False
def QS (m : xa6 → M (FR × xa6)) (f : xaB → FM (FF × xaB)) : Prop := ∀ ρ v o ffr fr fs σ x ffr' fs', FrR ρ v o ffr fr → xia ρ v o fs σ → f ffr fs = some ((x, ffr'), fs') →
  ∃ ρ' p fr' σ', m fr σ = some ((p, fr'), σ') ∧ xia ρ' v o fs' σ' ∧ xkV ρ σ ρ' σ' ∧ FFR ρ' v o x p ∧ FrR ρ' v o ffr' fr'
def QF (m : List PV → M PV) (f : List FV → FM FV) : Prop := ∀ ρ v o xs ps fs σ x fs', xgz ρ v o xs ps → xia ρ v o fs σ → f xs fs = some (x, fs') →
  ∃ ρ' p σ', m ps σ = some (p, σ') ∧ xia ρ' v o fs' σ' ∧ xkV ρ σ ρ' σ' ∧ FVR ρ' v o x p
theorem xaj {α β : Type} {m : Option (α × St)} {f : α → St → Option (β × St)} {a : α} {σ : St} (h : m = some (a, σ)) : bnd m f = f a σ := by rw [h]; rfl
def xaL (k : Nat) : xaB → FM FV := fun fr σ => match fr[k]? with
  | some (some v) => some (v, σ)
  | _ => none
theorem xaq (k : Nat) : QE (xa3 k) (xaL k) := by
  intro ρ v o ffr fr fs σ x fs' F R e
  unfold xaL at e
  split at e
  · rename_i y hy
    cases e
    obtain ⟨p, hp, hx⟩ := F.2 k _ hy
    exact ⟨ρ, p, σ, by unfold xa3; rw [hp], R, .refl, hx⟩
  · cases e
def xeL : xaB → FM FV := fun _ σ => some (.none, σ)
theorem xd9 : QE xaW xeL := by
  intro ρ v o ffr fr fs σ x fs' F R e; cases e; exact ⟨ρ, _, σ, rfl, R, .refl, .none⟩
def xgI (b : Bool) : xaB → FM FV := fun _ σ => some (.bool b, σ)
theorem xeB (b : Bool) : QE (xch b) (xgI b) := by
  intro ρ v o ffr fr fs σ x fs' F R e; cases e; exact ⟨ρ, _, σ, rfl, R, .refl, .bool b⟩
def xtY (k : Int) : xaB → FM FV := fun _ σ => some (.int (.lit k), σ)
theorem xt0 (k : Int) : QE (xaK k) (xtY k) := by
  intro ρ v o ffr fr fs σ x fs' F R e; cases e; exact ⟨ρ, _, σ, rfl, R, .refl, .int _ _ rfl⟩
def xua (tbl : List (Nat × Nat)) (x : FV) (σ : FS) : Option FV := match x with
  | .ref i => (match σ[i]? with
    | some (.inst c fs) => (match tbl.lookup c with
      | some k => fs[k]?
      | none => none)
    | _ => none)
  | _ => none
def xbp (tbl : List (Nat × Nat)) (a : xaB → FM FV) : xaB → FM FV := fun fr σ => xfU (a fr σ) fun x σ1 => match xua tbl x σ1 with
  | some v => some (v, σ1)
  | none => none
theorem xaV {tbl : List (Nat × Nat)} {a f} (h : QE a f) : QE (xa9 tbl a) (xbp tbl f) := by
  intro ρ v o ffr fr fs σ x fs' F R e
  obtain ⟨y, s1, e1, e⟩ := xaO e
  obtain ⟨ρ1, p, σ1, h1, R1, K1, V1⟩ := h _ _ _ _ _ _ _ _ _ F R e1
  split at e
  case h_2 => cases e
  rename_i z hz
  cases e
  unfold xua at hz
  split at hz
  case h_2 => cases hz
  rename_i i
  split at hz
  case h_2 => cases hz
  rename_i c gs ho
  cases V1 with
  | ref i b hb =>
  have O := R1.obj i b _ hb ho
  split at hz
  case h_2 => cases hz
  rename_i k hk
  cases hob : σ1.objs b with
  | inst c' ws =>
    rw [hob] at O
    obtain ⟨rfl, hv⟩ := O
    obtain ⟨q, hq, hvr⟩ := hv.get hz
    refine ⟨ρ1, q, σ1, ?_, R1, K1, hvr⟩
    unfold xa9
    rw [xaj h1]
    unfold xaN
    simp only [hob, hk, hq]
  | _ => rw [hob] at O; exact O.elim
def xsb : FV → FV → Option FV := fun x y => match x, y with | .int a, .int b => some (.int (.add a b)) | _, _ => none
def xrP : FV → FV → Option FV := fun x y => match x, y with | .int a, .int (.lit b) => some (.int (.add a (.lit (-b)))) | _, _ => none
def xrM (g : FV → FV → Option FV) (a b : xaB → FM FV) : xaB → FM FV := fun fr σ => xfU (a fr σ) fun x σ1 => xfU (b fr σ1) fun y σ2 => match g x y with | some z => some (z, σ2) | none => none
theorem xpE {a b f g} (ha : QE a f) (hb : QE b g) : QE (xbG xda a b) (xrM xsb f g) := by
  intro ρ v o ffr fr fs σ x fs' F R e
  obtain ⟨y, s1, e1, e⟩ := xaO e
  obtain ⟨z, s2, e2, e⟩ := xaO e
  obtain ⟨ρ1, p, σ1, h1, R1, K1, V1⟩ := ha _ _ _ _ _ _ _ _ _ F R e1
  obtain ⟨ρ2, q, σ2, h2, R2, K2, V2⟩ := hb _ _ _ _ _ _ _ _ _ (F.mono K1.pre) R1 e2
  have V1' := V1.mono K2.pre
  unfold xsb at e
  split at e
  case h_2 => cases e
  rename_i w hw
  split at hw
  case h_2 => cases hw
  cases hw; cases e
  cases V1' with
  | int a k hk => cases V2 with
    | int b l hl =>
      refine ⟨ρ2, .int (k + l), σ2, ?_, R2, K1.trans K2, .int _ _ (by rw [hk, hl]; rfl)⟩
      unfold xbG; rw [xaj h1, xaj h2]; rfl
theorem xtq {a b f g} (ha : QE a f) (hb : QE b g) : QE (xbG xhc a b) (xrM xrP f g) := by
  intro ρ v o ffr fr fs σ x fs' F R e
  obtain ⟨y, s1, e1, e⟩ := xaO e
  obtain ⟨z, s2, e2, e⟩ := xaO e
  obtain ⟨ρ1, p, σ1, h1, R1, K1, V1⟩ := ha _ _ _ _ _ _ _ _ _ F R e1
  obtain ⟨ρ2, q, σ2, h2, R2, K2, V2⟩ := hb _ _ _ _ _ _ _ _ _ (F.mono K1.pre) R1 e2
  have V1' := V1.mono K2.pre
  unfold xrP at e
  split at e
  case h_2 => cases e
  rename_i w hw
  split at hw
  case h_2 => cases hw
  cases hw; cases e
  cases V1' with
  | int a k hk => cases V2 with
    | int b l hl =>
      refine ⟨ρ2, .int (k - l), σ2, ?_, R2, K1.trans K2, .int _ _ (by rw [hk, hl]; show _ = _ + (- _); rw [Int.sub_eq_add_neg]; rfl)⟩
      unfold xbG; rw [xaj h1, xaj h2]; rfl
def xs0 : FV → FV → Option Bool
  | .none, .none => some true
  | .none, .ref _ => some false
  | .ref _, .none => some false
  | .ref i, .ref j => some (i == j)
  | _, _ => none
theorem xoq {ρ : List Nat} {v o x y p q b} (hn : ρ.Nodup) (hx : FVR ρ v o x p) (hy : FVR ρ v o y q) (h : xs0 x y = some b) : xcc p q = some b := by
  unfold xs0 at h
  split at h
  · cases h; cases hx; cases hy; rfl
  · cases h; cases hx; cases hy; rfl
  · cases h; cases hx; cases hy; rfl
  · rename_i i j
    cases h
    cases hx with
    | ref i a ha => cases hy with
      | ref j b hb =>
        show some (decide (a = b)) = some (i == j)
        congr 1
        by_cases q : i = j
        · subst q; rw [ha] at hb; cases hb; simp
        · have : a ≠ b := fun z => q ((List.getElem?_inj (List.getElem?_eq_some_iff.mp ha).1 hn).mp (by rw [ha, hb, z]))
          simp [q, this]
  · cases h
def fCh (n : Bool) (a b : xaB → FM FV) : xaB → FM Bool := fun fr σ => xfU (a fr σ) fun x σ1 => xfU (b fr σ1) fun y σ2 => match xs0 x y with | some z => some (z != n, σ2) | none => none
theorem xl0 {a b f g} (ha : QE a f) (hb : QE b g) : QT (xaP a (xai cIs b)) (fCh false f g) := by
  intro ρ v o ffr fr fs σ x fs' F R e
  obtain ⟨y, s1, e1, e⟩ := xaO e
  obtain ⟨z, s2, e2, e⟩ := xaO e
  obtain ⟨ρ1, p, σ1, h1, R1, K1, V1⟩ := ha _ _ _ _ _ _ _ _ _ F R e1
  obtain ⟨ρ2, q, σ2, h2, R2, K2, V2⟩ := hb _ _ _ _ _ _ _ _ _ (F.mono K1.pre) R1 e2
  split at e
  case h_2 => cases e
  rename_i w hw
  cases e
  refine ⟨ρ2, σ2, ?_, R2, K1.trans K2⟩
  unfold xaP; rw [xaj h1]; unfold xai; rw [xaj h2]
  unfold cIs
  rw [xoq R2.nodup (V1.mono K2.pre) V2 hw]
  simp
theorem xct {a b f g} (ha : QE a f) (hb : QE b g) : QT (xaP a (xai xbc b)) (fCh true f g) := by
  intro ρ v o ffr fr fs σ x fs' F R e
  obtain ⟨y, s1, e1, e⟩ := xaO e
  obtain ⟨z, s2, e2, e⟩ := xaO e
  obtain ⟨ρ1, p, σ1, h1, R1, K1, V1⟩ := ha _ _ _ _ _ _ _ _ _ F R e1
  obtain ⟨ρ2, q, σ2, h2, R2, K2, V2⟩ := hb _ _ _ _ _ _ _ _ _ (F.mono K1.pre) R1 e2
  split at e
  case h_2 => cases e
  rename_i w hw
  cases e
  refine ⟨ρ2, σ2, ?_, R2, K1.trans K2⟩
  unfold xaP; rw [xaj h1]; unfold xai; rw [xaj h2]
  unfold xbc
  rw [xoq R2.nodup (V1.mono K2.pre) V2 hw]
  cases w <;> rfl
def xsO (t : xaB → FM Bool) : xaB → FM FV := fun fr σ => xfU (t fr σ) fun b σ1 => some (.bool b, σ1)
theorem xrS {a k t} (h : QT (xaP a k) t) : QE (xdY a k) (xsO t) := by
  intro ρ v o ffr fr fs σ x fs' F R e
  obtain ⟨y, s1, e1, e⟩ := xaO e
  cases e
  obtain ⟨ρ1, σ1, h1, R1, K1⟩ := h _ _ _ _ _ _ _ _ _ F R e1
  refine ⟨ρ1, .bool y, σ1, ?_, R1, K1, .bool y⟩
  unfold xaP at h1
  obtain ⟨z, σ0, h2, h3⟩ := xah h1
  unfold xdY
  rw [xaj h2, xaj h3]
def xoH : FV → Option Bool
  | .bool b => some b
  | .none => some false
  | _ => none
theorem xhu {ρ : List Nat} {v o x p b} (hx : FVR ρ v o x p) (h : xoH x = some b) : xew p = some b := by
  unfold xoH at h
  split at h
  · cases h; cases hx; rfl
  · cases h; cases hx; rfl
  · cases h
def xd7 (a : xaB → FM FV) : xaB → FM Bool := fun fr σ => xfU (a fr σ) fun x σ1 => match xoH x with | some b => some (b, σ1) | none => none
theorem xca {a f} (h : QE a f) : QT (xbe a) (xd7 f) := by
  intro ρ v o ffr fr fs σ x fs' F R e
  obtain ⟨y, s1, e1, e⟩ := xaO e
  obtain ⟨ρ1, p, σ1, h1, R1, K1, V1⟩ := h _ _ _ _ _ _ _ _ _ F R e1
  split at e
  case h_2 => cases e
  rename_i b hb
  cases e
  refine ⟨ρ1, σ1, ?_, R1, K1⟩
  unfold xbe; rw [xaj h1, xhu V1 hb]
def xqU (a : xaB → FM Bool) : xaB → FM Bool := fun fr σ => xfU (a fr σ) fun x σ1 => some (!x, σ1)
theorem xkB {a f} (h : QT a f) : QT (xoM a) (xqU f) := by
  intro ρ v o ffr fr fs σ x fs' F R e
  obtain ⟨y, s1, e1, e⟩ := xaO e
  cases e
  obtain ⟨ρ1, σ1, h1, R1, K1⟩ := h _ _ _ _ _ _ _ _ _ F R e1
  exact ⟨ρ1, σ1, by unfold xoM; rw [xaj h1], R1, K1⟩
theorem xtM {a f} (h : QE a f) : QE (xqM a) (xsO (xqU (xd7 f))) := by
  intro ρ v o ffr fr fs σ x fs' F R e
  obtain ⟨y, s1, e1, e⟩ := xaO e
  obtain ⟨y, s1, e2, e1⟩ := xaO e1
  obtain ⟨y, s1, e3, e2⟩ := xaO e2
  obtain ⟨ρ1, p, σ1, h1, R1, K1, V1⟩ := h _ _ _ _ _ _ _ _ _ F R e3
  split at e2
  case h_2 => cases e2
  rename_i b hb
  cases e2; cases e1; cases e
  refine ⟨ρ1, _, σ1, ?_, R1, K1, .bool _⟩
  unfold xqM; rw [xaj h1, xhu V1 hb]
def xp2 : xaB → FM Bool := fun _ σ => some (true, σ)
theorem xiQ : QT xbV xp2 := by
  intro ρ v o ffr fr fs σ x fs' F R e; cases e; exact ⟨ρ, σ, rfl, R, .refl⟩
def xq6 (a b : xaB → FM Bool) : xaB → FM Bool := fun fr σ => xfU (a fr σ) fun x σ1 => if x then b fr σ1 else some (false, σ1)
theorem xgN {a b f g} (ha : QT a f) (hb : QT b g) : QT (xcK a b) (xq6 f g) := by
  intro ρ v o ffr fr fs σ x fs' F R e
  obtain ⟨y, s1, e1, e⟩ := xaO e
  obtain ⟨ρ1, σ1, h1, R1, K1⟩ := ha _ _ _ _ _ _ _ _ _ F R e1
  cases y with
  | true =>
    obtain ⟨ρ2, σ2, h2, R2, K2⟩ := hb _ _ _ _ _ _ _ _ _ (F.mono K1.pre) R1 e
    exact ⟨ρ2, σ2, by unfold xcK; rw [xaj h1]; exact h2, R2, K1.trans K2⟩
  | false => cases e; exact ⟨ρ1, σ1, by unfold xcK; rw [xaj h1]; rfl, R1, K1⟩
def fOr (a b : xaB → FM Bool) : xaB → FM Bool := fun fr σ => xfU (a fr σ) fun x σ1 => if x then some (true, σ1) else b fr σ1
def xrD : xaB → FM Bool := fun _ σ => some (false, σ)
theorem xrg : QT xkC xrD := by
  intro ρ v o ffr fr fs σ x fs' F R e; cases e; exact ⟨ρ, σ, rfl, R, .refl⟩
theorem xts {a b f g} (ha : QT a f) (hb : QT b g) : QT (tOr a b) (fOr f g) := by
  intro ρ v o ffr fr fs σ x fs' F R e
  obtain ⟨y, s1, e1, e⟩ := xaO e
  obtain ⟨ρ1, σ1, h1, R1, K1⟩ := ha _ _ _ _ _ _ _ _ _ F R e1
  cases y with
  | false =>
    obtain ⟨ρ2, σ2, h2, R2, K2⟩ := hb _ _ _ _ _ _ _ _ _ (F.mono K1.pre) R1 e
    exact ⟨ρ2, σ2, by unfold tOr; rw [xaj h1]; exact h2, R2, K1.trans K2⟩
  | true => cases e; exact ⟨ρ1, σ1, by unfold tOr; rw [xaj h1]; rfl, R1, K1⟩
def xrJ (c : xaB → FM Bool) (a b : xaB → FM FV) : xaB → FM FV := fun fr σ => xfU (c fr σ) fun x σ1 => if x then a fr σ1 else b fr σ1
theorem xsu {c a b t f g} (hc : QT c t) (ha : QE a f) (hb : QE b g) : QE (eIf c a b) (xrJ t f g) := by
  intro ρ v o ffr fr fs σ x fs' F R e
  obtain ⟨y, s1, e1, e⟩ := xaO e
  obtain ⟨ρ1, σ1, h1, R1, K1⟩ := hc _ _ _ _ _ _ _ _ _ F R e1
  cases y with
  | true =>
    obtain ⟨ρ2, p, σ2, h2, R2, K2, V2⟩ := ha _ _ _ _ _ _ _ _ _ (F.mono K1.pre) R1 e
    exact ⟨ρ2, p, σ2, by unfold eIf; rw [xaj h1]; exact h2, R2, K1.trans K2, V2⟩
  | false =>
    obtain ⟨ρ2, p, σ2, h2, R2, K2, V2⟩ := hb _ _ _ _ _ _ _ _ _ (F.mono K1.pre) R1 e
    exact ⟨ρ2, p, σ2, by unfold eIf; rw [xaj h1]; exact h2, R2, K1.trans K2, V2⟩
def xtl (a b : xaB → FM FV) : xaB → FM FV := fun fr σ => xfU (a fr σ) fun x σ1 => match xoH x with | some true => b fr σ1 | some false => some (x, σ1) | none => none
theorem xu1 {a b f g} (ha : QE a f) (hb : QE b g) : QE (xoC a b) (xtl f g) := by
  intro ρ v o ffr fr fs σ x fs' F R e
  obtain ⟨y, s1, e1, e⟩ := xaO e
  obtain ⟨ρ1, p, σ1, h1, R1, K1, V1⟩ := ha _ _ _ _ _ _ _ _ _ F R e1
  split at e
  · rename_i ht
    obtain ⟨ρ2, q, σ2, h2, R2, K2, V2⟩ := hb _ _ _ _ _ _ _ _ _ (F.mono K1.pre) R1 e
    refine ⟨ρ2, q, σ2, ?_, R2, K1.trans K2, V2⟩
    unfold xoC; rw [xaj h1, xhu V1 ht]; exact h2
  · rename_i ht
    cases e
    refine ⟨ρ1, p, σ1, ?_, R1, K1, V1⟩
    unfold xoC; rw [xaj h1, xhu V1 ht]
  · cases e
def xc2 : xaB → FM (List FV) := fun _ σ => some ([], σ)
theorem xb5 : QEs xa8 xc2 := by
  intro ρ v o ffr fr fs σ x fs' F R e; cases e; exact ⟨ρ, [], σ, rfl, R, .refl, .nil⟩
def xaG (a : xaB → FM FV) (b : xaB → FM (List FV)) : xaB → FM (List FV) := fun fr σ => xfU (a fr σ) fun x σ1 => xfU (b fr σ1) fun xs σ2 => some (x :: xs, σ2)
theorem xaw {a b f g} (ha : QE a f) (hb : QEs b g) : QEs (xa1 a b) (xaG f g) := by
  intro ρ v o ffr fr fs σ x fs' F R e
  obtain ⟨y, s1, e1, e⟩ := xaO e
  obtain ⟨ys, s2, e2, e⟩ := xaO e
  cases e
  obtain ⟨ρ1, p, σ1, h1, R1, K1, V1⟩ := ha _ _ _ _ _ _ _ _ _ F R e1
  obtain ⟨ρ2, q, σ2, h2, R2, K2, V2⟩ := hb _ _ _ _ _ _ _ _ _ (F.mono K1.pre) R1 e2
  refine ⟨ρ2, p :: q, σ2, ?_, R2, K1.trans K2, .cons (V1.mono K2.pre) V2⟩
  unfold xa1; rw [xaj h1, xaj h2]
def xtD (a : xaB → FM (List FV)) : xaB → FM FV := fun fr σ => xfU (a fr σ) fun x σ1 => if x.length ≤ 1000 then some (.tup x, σ1) else none
theorem xsH {a f} (h : QEs a f) : QE (xeJ a) (xtD f) := by
  intro ρ v o ffr fr fs σ x fs' F R e
  obtain ⟨y, s1, e1, e⟩ := xaO e
  split at e
  case isFalse => cases e
  rename_i hz
  cases e
  obtain ⟨ρ1, p, σ1, h1, R1, K1, V1⟩ := h _ _ _ _ _ _ _ _ _ F R e1
  refine ⟨ρ1, .tup p, σ1, ?_, R1, K1, .tup _ _ V1.1 V1.2⟩
  unfold xeJ; rw [xaj h1, if_pos (V1.1 ▸ hz)]
def xtJ (vs : List FV) (σ : FS) : Option (FV × FS) := if vs.length ≤ 1000 then some (.ref σ.length, σ ++ [.list vs]) else none
theorem xpX {ρ : List Nat} {v o vs ps fs σ x fs'} (R : xia ρ v o fs σ) (hv : xgz ρ v o vs ps) (e : xtJ vs fs = some (x, fs')) : ∃ ρ' p σ', xnM ps σ = some (p, σ') ∧ xia ρ' v o fs' σ' ∧ xkV ρ σ ρ' σ' ∧ FVR ρ' v o x p := by
  unfold xtJ at e
  split at e
  case isFalse => cases e
  rename_i hz
  cases e
  have hp : ∀ (i a : Nat), ρ[i]? = some a → (ρ ++ [σ.next])[i]? = some a := fun i a e => by rw [List.getElem?_append_left (List.getElem?_eq_some_iff.mp e).1]; exact e
  obtain ⟨R1, K1⟩ := R.push (x := .list vs) (y := .list ps) (hv.mono hp)
  refine ⟨_, _, _, by unfold xnM; rw [if_pos (hv.1 ▸ hz)], R1, K1, .ref _ _ ?_⟩
  rw [← R.len]; simp
def xsS (a : xaB → FM (List FV)) : xaB → FM FV := fun fr σ => xfU (a fr σ) fun x σ1 => xtJ x σ1
theorem xsY {a f} (h : QEs a f) : QE (xc8 a) (xsS f) := by
  intro ρ v o ffr fr fs σ x fs' F R e
  obtain ⟨y, s1, e1, e⟩ := xaO e
  obtain ⟨ρ1, p, σ1, h1, R1, K1, V1⟩ := h _ _ _ _ _ _ _ _ _ F R e1
  obtain ⟨ρ2, q, σ2, h2, R2, K2, V2⟩ := xpX R1 V1 e
  exact ⟨ρ2, q, σ2, by unfold xc8; rw [xaj h1]; exact h2, R2, K1.trans K2, V2⟩
def xnW (x : FV) (σ : FS) : Option (List FV) := match x with
  | .ref i => (match σ[i]? with | some (.list vs) => some vs | some (.flist vs) => some vs | _ => none)
  | _ => none
theorem xp7 {ρ : List Nat} {v o x p fs σ vs} (R : xia ρ v o fs σ) (hx : FVR ρ v o x p) (e : xnW x fs = some vs) : ∃ ws, xc7 p σ = some ws ∧ xgz ρ v o vs ws := by
  unfold xnW at e
  split at e
  case h_2 => cases e
  rename_i i
  cases hx with
  | ref i a ha =>
  split at e
  · rename_i ho
    cases e
    have O := R.obj i a _ ha ho
    cases hob : σ.objs a with
    | list ws => rw [hob] at O; exact ⟨ws, by unfold xc7; simp only [hob], O⟩
    | _ => rw [hob] at O; exact O.elim
  · rename_i ho
    cases e
    have O := R.obj i a _ ha ho
    cases hob : σ.objs a with
    | flist ws => rw [hob] at O; exact ⟨ws, by unfold xc7; simp only [hob], O⟩
    | _ => rw [hob] at O; exact O.elim
  · cases e
def xuf (a : xaB → FM FV) : xaB → FM FV := fun fr σ => xfU (a fr σ) fun x σ1 => match xnW x σ1 with
  | some ws => xtJ ws.reverse σ1
  | none => none
theorem xu8 {a f} (h : QE a f) : QE (xtE a) (xuf f) := by
  intro ρ v o ffr fr fs σ x fs' F R e
  obtain ⟨y, s1, e1, e⟩ := xaO e
  obtain ⟨ρ1, p, σ1, h1, R1, K1, V1⟩ := h _ _ _ _ _ _ _ _ _ F R e1
  split at e
  case h_2 => cases e
  rename_i ws hw
  obtain ⟨qs, hq, hv⟩ := xp7 R1 V1 hw
  obtain ⟨ρ2, q, σ2, h2, R2, K2, V2⟩ := xpX R1 hv.reverse e
  refine ⟨ρ2, q, σ2, ?_, R2, K1.trans K2, V2⟩
  unfold xtE; rw [xaj h1, hq]; exact h2
def xqq (a b : xaB → FM FV) : xaB → FM FV := fun fr σ => xfU (a fr σ) fun x σ1 => xfU (b fr σ1) fun y σ2 => match x with
  | .ref i => (match σ1[i]?, σ2[i]? with
    | some (.list _), some (.list vs) => if vs.length < 1000 then some (.none, σ2.set i (.list (vs ++ [y]))) else none
    | _, _ => none)
  | _ => none
theorem xrj {a b f g} (ha : QE a f) (hb : QE b g) : QE (xcs isL xco a b) (xqq f g) := by
  intro ρ v o ffr fr fs σ x fs' F R e
  obtain ⟨y, s1, e1, e⟩ := xaO e
  obtain ⟨z, s2, e2, e⟩ := xaO e
  obtain ⟨ρ1, p, σ1, h1, R1, K1, V1⟩ := ha _ _ _ _ _ _ _ _ _ F R e1
  obtain ⟨ρ2, q, σ2, h2, R2, K2, V2⟩ := hb _ _ _ _ _ _ _ _ _ (F.mono K1.pre) R1 e2
  obtain ⟨i, rfl⟩ : ∃ i, y = .ref i := by cases y <;> first | exact ⟨_, rfl⟩ | cases e
  dsimp only at e
  split at e
  case h_2 => cases e
  rename_i vs0 vs o1 o2
  split at e
  case isFalse => cases e
  rename_i hz
  cases e
  cases V1 with
  | ref i a ha' =>
  have O1 := R1.obj i a _ ha' o1
  have ha2 := K2.pre _ _ ha'
  have O2 := R2.obj i a _ ha2 o2
  cases hob1 : σ1.objs a with
  | list ws1 =>
    cases hob2 : σ2.objs a with
    | list ws2 =>
      rw [hob2] at O2
      have hv : xgz ρ2 v o vs ws2 := O2
      obtain ⟨R3, K3⟩ := R2.set (x := .list (vs ++ [z])) (y := .list (ws2 ++ [q])) ha2 (hv.append (.cons V2 .nil))
      refine ⟨ρ2, .none, _, ?_, R3, (K1.trans K2).trans K3, .none⟩
      unfold xcs
      rw [xaj h1]
      have hl : isL (.ref a) σ1 = true := by unfold isL; simp only [hob1]
      rw [if_pos hl, xaj h2]
      unfold xco
      simp only [hob2]
      rw [if_pos (hv.1 ▸ hz)]
    | _ => rw [hob2] at O2; exact O2.elim
  | _ => rw [hob1] at O1; exact O1.elim
def xcj (F : List FV → FM FV) (m : xaB → FM (List FV)) : xaB → FM FV := fun fr σ => xfU (m fr σ) fun vs σ1 => F vs σ1
theorem xbD {F G m f} (hF : QF F G) (hm : QEs m f) : QE (xad F m) (xcj G f) := by
  intro ρ v o ffr fr fs σ x fs' Fr R e
  obtain ⟨y, s1, e1, e⟩ := xaO e
  obtain ⟨ρ1, p, σ1, h1, R1, K1, V1⟩ := hm _ _ _ _ _ _ _ _ _ Fr R e1
  obtain ⟨ρ2, q, σ2, h2, R2, K2, V2⟩ := hF _ _ _ _ _ _ _ _ _ V1 R1 e
  exact ⟨ρ2, q, σ2, by unfold xad; rw [xaj h1]; exact h2, R2, K1.trans K2, V2⟩
def xtT : List FV → FM FV := fun vs σ => match vs with
  | [.int a, .int b] => some (.int (.mx a b), σ)
  | _ => none
theorem xsW : QF xhJ xtT := by
  intro ρ v o xs ps fs σ x fs' V R e
  unfold xtT at e
  split at e
  case h_2 => cases e
  rename_i a b
  cases e
  match ps, V with
  | [p, q], V =>
    have h1 := V.2 0 _ _ rfl rfl
    have h2 := V.2 1 _ _ rfl rfl
    cases h1 with
    | int e1 k hk => cases h2 with
      | int e2 l hl => exact ⟨ρ, _, σ, rfl, R, .refl, .int _ _ (by rw [hk, hl]; rfl)⟩
  | [], V => exact absurd V.1 (by simp)
  | [_], V => exact absurd V.1 (by simp)
  | _ :: _ :: _ :: _, V => exact absurd V.1 (by simp)
def xlO (np k : Nat) (b : xaB → FM (FF × xaB)) : List FV → FM FV := fun vs σ => if vs.length = np then xfU (b (vs.map some ++ List.replicate k none) σ) fun x σ1 => match x.1 with
  | .next => some (.none, σ1)
  | .ret v => some (v, σ1) else none
theorem xe5 {np k : Nat} {b f} (h : QS b f) : QF (xaT np k b) (xlO np k f) := by
  intro ρ v o xs ps fs σ x fs' V R e
  unfold xlO at e
  split at e
  case isFalse => cases e
  rename_i hl
  obtain ⟨⟨y, fr'⟩, s1, e1, e⟩ := xaO e
  have F : FrR ρ v o (xs.map some ++ List.replicate k none) (ps.map some ++ List.replicate k none) := by
    refine ⟨by simp [V.1], fun j z hz => ?_⟩
    rcases Nat.lt_or_ge j xs.length with q | q
    · rw [List.getElem?_append_left (by simpa using q), List.getElem?_map] at hz
      obtain ⟨w, hw, e2⟩ := Option.map_eq_some_iff.mp hz
      cases e2
      obtain ⟨p, hp, hv⟩ := V.get hw
      refine ⟨p, ?_, hv⟩
      rw [List.getElem?_append_left (by have := V.1; simp; omega), List.getElem?_map, hp]; rfl
    · rw [List.getElem?_append_right (by simpa using q)] at hz
      have := List.eq_of_mem_replicate (List.mem_of_getElem? hz)
      cases this
  obtain ⟨ρ1, p, fr1, σ1, h1, R1, K1, V1, F1⟩ := h _ _ _ _ _ _ _ _ _ _ F R e1
  cases y with
  | next =>
    cases e
    cases p with
    | next => exact ⟨ρ1, .none, σ1, by unfold xaT; rw [if_pos (V.1 ▸ hl), xaj h1], R1, K1, .none⟩
    | ret p => exact V1.elim
  | ret y =>
    cases e
    cases p with
    | next => exact V1.elim
    | ret p => exact ⟨ρ1, p, σ1, by unfold xaT; rw [if_pos (V.1 ▸ hl), xaj h1], R1, K1, V1⟩
theorem FrR.set {ρ v o ffr fr} (F : FrR ρ v o ffr fr) {x p} (h : FVR ρ v o x p) (k : Nat) : FrR ρ v o (ffr.set k (some x)) (fr.set k (some p)) := by
  refine ⟨by simp [F.1], fun j y e => ?_⟩
  rw [List.getElem?_set] at e
  by_cases q : k = j
  · rw [if_pos q] at e
    split at e
    · rename_i hk
      cases e
      refine ⟨p, ?_, h⟩
      rw [List.getElem?_set, if_pos q, if_pos (F.1 ▸ hk)]
    · cases e
  · rw [if_neg q] at e
    obtain ⟨p', h1, h2⟩ := F.2 j y e
    exact ⟨p', by rw [List.getElem?_set, if_neg q]; exact h1, h2⟩
def xbC (k : Nat) (a : xaB → FM FV) : xaB → FM (FF × xaB) := fun fr σ => xfU (a fr σ) fun v σ1 => some ((.next, fr.set k (some v)), σ1)
theorem xb7 {a f} (k : Nat) (h : QE a f) : QS (xak k a) (xbC k f) := by
  intro ρ v o ffr fr fs σ x ffr' fs' F R e
  obtain ⟨y, s1, e1, e⟩ := xaO e
  cases e
  obtain ⟨ρ1, p, σ1, h1, R1, K1, V1⟩ := h _ _ _ _ _ _ _ _ _ F R e1
  exact ⟨ρ1, .next, _, σ1, by unfold xak; rw [xaj h1], R1, K1, trivial, (F.mono K1.pre).set V1 k⟩
def xug (tbl : List (Nat × Nat)) (x : FV) (v : FV) (σ : FS) : Option FS := match x with
  | .ref i => (match σ[i]? with
    | some (.inst c fs) => (match tbl.lookup c with
      | some k => if k < fs.length then some (σ.set i (.inst c (fs.set k v))) else none
      | none => none)
    | _ => none)
  | _ => none
def xaM (tbl : List (Nat × Nat)) (o v : xaB → FM FV) : xaB → FM (FF × xaB) := fun fr σ => xfU (v fr σ) fun x σ1 => xfU (o fr σ1) fun y σ2 => match xug tbl y x σ2 with
  | some σ3 => some ((.next, fr), σ3)
  | none => none
theorem xaD {tbl : List (Nat × Nat)} {a b f g} (ha : QE a f) (hb : QE b g) : QS (xa7 tbl a b) (xaM tbl f g) := by
  intro ρ v o ffr fr fs σ x ffr' fs' F R e
  obtain ⟨y, s1, e1, e⟩ := xaO e
  obtain ⟨z, s2, e2, e⟩ := xaO e
  obtain ⟨ρ1, p, σ1, h1, R1, K1, V1⟩ := hb _ _ _ _ _ _ _ _ _ F R e1
  obtain ⟨ρ2, q, σ2, h2, R2, K2, V2⟩ := ha _ _ _ _ _ _ _ _ _ (F.mono K1.pre) R1 e2
  split at e
  case h_2 => cases e
  rename_i s3 hp
  cases e
  obtain ⟨i, rfl⟩ : ∃ i, z = .ref i := by cases z <;> first | exact ⟨_, rfl⟩ | cases hp
  unfold xug at hp
  dsimp only at hp
  split at hp
  case h_2 => cases hp
  rename_i c gs ho
  split at hp
  case h_2 => cases hp
  rename_i k hk
  split at hp
  case isFalse => cases hp
  rename_i hlt
  cases hp
  cases V2 with
  | ref i a hai =>
  have O := R2.obj i a _ hai ho
  cases hob : σ2.objs a with
  | inst c' ws =>
    rw [hob] at O
    obtain ⟨rfl, hv⟩ := O
    obtain ⟨R3, K3⟩ := R2.set (x := .inst c (gs.set k y)) (y := .inst c (ws.set k p)) hai ⟨rfl, hv.set (V1.mono K2.pre) k⟩
    refine ⟨ρ2, .next, fr, _, ?_, R3, (K1.trans K2).trans K3, trivial, F.mono (K1.trans K2).pre⟩
    unfold xa7
    rw [xaj h1, xaj h2]
    unfold xbO
    simp only [hob, hk]
    rw [if_pos (hv.1 ▸ hlt)]
  | _ => rw [hob] at O; exact O.elim
def xpL (a : xaB → FM FV) : xaB → FM (FF × xaB) := fun fr σ => xfU (a fr σ) fun v σ1 => some ((.ret v, fr), σ1)
theorem xgO {a f} (h : QE a f) : QS (xcA a) (xpL f) := by
  intro ρ v o ffr fr fs σ x ffr' fs' F R e
  obtain ⟨y, s1, e1, e⟩ := xaO e
  cases e
  obtain ⟨ρ1, p, σ1, h1, R1, K1, V1⟩ := h _ _ _ _ _ _ _ _ _ F R e1
  exact ⟨ρ1, .ret p, fr, σ1, by unfold xcA; rw [xaj h1], R1, K1, V1, F.mono K1.pre⟩
def xto : xaB → FM (FF × xaB) := fun fr σ => some ((.ret .none, fr), σ)
theorem xsz : QS xfR xto := by
  intro ρ v o ffr fr fs σ x ffr' fs' F R e; cases e; exact ⟨ρ, .ret .none, fr, σ, rfl, R, .refl, .none, F⟩
def xe1 (a : xaB → FM FV) : xaB → FM (FF × xaB) := fun fr σ => xfU (a fr σ) fun v σ1 => some ((.next, fr), σ1)
theorem xc0 {a f} (h : QE a f) : QS (xb1 a) (xe1 f) := by
  intro ρ v o ffr fr fs σ x ffr' fs' F R e
  obtain ⟨y, s1, e1, e⟩ := xaO e
  cases e
  obtain ⟨ρ1, p, σ1, h1, R1, K1, V1⟩ := h _ _ _ _ _ _ _ _ _ F R e1
  exact ⟨ρ1, .next, fr, σ1, by unfold xb1; rw [xaj h1], R1, K1, trivial, F.mono K1.pre⟩
def xd1 : xaB → FM (FF × xaB) := fun fr σ => some ((.next, fr), σ)
theorem xaX : QS xaC xd1 := by
  intro ρ v o ffr fr fs σ x ffr' fs' F R e; cases e; exact ⟨ρ, .next, fr, σ, rfl, R, .refl, trivial, F⟩
def xaE (a b : xaB → FM (FF × xaB)) : xaB → FM (FF × xaB) := fun fr σ => xfU (a fr σ) fun x σ1 => match x.1 with
  | .next => b x.2 σ1
  | .ret v => some ((.ret v, x.2), σ1)
theorem xag {a b f g} (ha : QS a f) (hb : QS b g) : QS (xa5 a b) (xaE f g) := by
  intro ρ v o ffr fr fs σ x ffr' fs' F R e
  obtain ⟨⟨y, fr1⟩, s1, e1, e⟩ := xaO e
  obtain ⟨ρ1, p, fr1', σ1, h1, R1, K1, V1, F1⟩ := ha _ _ _ _ _ _ _ _ _ _ F R e1
  cases y with
  | next =>
    cases p with
    | next =>
      obtain ⟨ρ2, q, fr2, σ2, h2, R2, K2, V2, F2⟩ := hb _ _ _ _ _ _ _ _ _ _ F1 R1 e
      exact ⟨ρ2, q, fr2, σ2, by unfold xa5; rw [xaj h1]; exact h2, R2, K1.trans K2, V2, F2⟩
    | ret p => exact V1.elim
  | ret y =>
    cases e
    cases p with
    | next => exact V1.elim
    | ret p => exact ⟨ρ1, .ret p, fr1', σ1, by unfold xa5; rw [xaj h1], R1, K1, V1, F1⟩
def gIf (c : xaB → FM Bool) (a b : xaB → FM (FF × xaB)) : xaB → FM (FF × xaB) := fun fr σ => xfU (c fr σ) fun x σ1 => if x then a fr σ1 else b fr σ1
theorem xeM {c a b t f g} (hc : QT c t) (ha : QS a f) (hb : QS b g) : QS (sIf c a b) (gIf t f g) := by
  intro ρ v o ffr fr fs σ x ffr' fs' F R e
  obtain ⟨y, s1, e1, e⟩ := xaO e
  obtain ⟨ρ1, σ1, h1, R1, K1⟩ := hc _ _ _ _ _ _ _ _ _ F R e1
  cases y with
  | true =>
    obtain ⟨ρ2, p, fr2, σ2, h2, R2, K2, V2⟩ := ha _ _ _ _ _ _ _ _ _ _ (F.mono K1.pre) R1 e
    exact ⟨ρ2, p, fr2, σ2, by unfold sIf; rw [xaj h1]; exact h2, R2, K1.trans K2, V2⟩
  | false =>
    obtain ⟨ρ2, p, fr2, σ2, h2, R2, K2, V2⟩ := hb _ _ _ _ _ _ _ _ _ _ (F.mono K1.pre) R1 e
    exact ⟨ρ2, p, fr2, σ2, by unfold sIf; rw [xaj h1]; exact h2, R2, K1.trans K2, V2⟩
def xjB (c : xaB → FM Bool) (b : xaB → FM (FF × xaB)) : Nat → xaB → FM (FF × xaB)
  | 0, _, _ => none
  | n + 1, fr, σ => xfU (c fr σ) fun t σ1 => if t then xfU (b fr σ1) fun x σ2 => (match x.1 with
      | .next => xjB c b n x.2 σ2
      | .ret v => some ((.ret v, x.2), σ2)) else some ((.next, fr), σ1)
theorem xjc {c b t f} (n : Nat) (hc : QT c t) (hb : QS b f) : QS (xcB c b) (xjB t f n) := by
  induction n with
  | zero => intro ρ v o ffr fr fs σ x ffr' fs' F R e; cases e
  | succ n ih =>
    intro ρ v o ffr fr fs σ x ffr' fs' F R e
    obtain ⟨y, s1, e1, e⟩ := xaO (show xfU (t ffr fs) _ = _ from e)
    obtain ⟨ρ1, σ1, h1, R1, K1⟩ := hc _ _ _ _ _ _ _ _ _ F R e1
    cases y with
    | false =>
      cases e
      exact ⟨ρ1, .next, fr, σ1, xfi h1, R1, K1, trivial, F.mono K1.pre⟩
    | true =>
      obtain ⟨⟨z, fr2⟩, s2, e2, e⟩ := xaO (show xfU (f ffr s1) _ = _ from e)
      obtain ⟨ρ2, p, fr2', σ2, h2, R2, K2, V2, F2⟩ := hb _ _ _ _ _ _ _ _ _ _ (F.mono K1.pre) R1 e2
      cases z with
      | next =>
        cases p with
        | next =>
          obtain ⟨ρ3, q, fr3, σ3, h3, R3, K3, V3, F3⟩ := ih _ _ _ _ _ _ _ _ _ _ F2 R2 e
          exact ⟨ρ3, q, fr3, σ3, xd3 h1 h2 h3, R3, (K1.trans K2).trans K3, V3, F3⟩
        | ret p => exact V2.elim
      | ret z =>
        cases e
        cases p with
        | next => exact V2.elim
        | ret p => exact ⟨ρ2, .ret p, fr2', σ2, xg4 h1 h2, R2, K1.trans K2, V2, F2⟩
def xnG (x : FV) (σ : FS) : Option (List FV × FS) := match x with
  | .tup vs => if vs.length ≤ 1000 then some (vs, σ) else none
  | .ref i => (match σ[i]? with
    | some (.list vs) => some (vs, σ.set i (.flist vs))
    | some (.flist vs) => some (vs, σ)
    | _ => none)
  | _ => none
def xs2 (k : Nat) (b : xaB → FM (FF × xaB)) : List FV → xaB → FM (FF × xaB)
  | [], fr, σ => some ((.next, fr), σ)
  | v :: vs, fr, σ => xfU (b (fr.set k (some v)) σ) fun x σ1 => match x.1 with
      | .next => xs2 k b vs x.2 σ1
      | .ret p => some ((.ret p, x.2), σ1)
def xtC (k : Nat) (a : xaB → FM FV) (b : xaB → FM (FF × xaB)) : xaB → FM (FF × xaB) := fun fr σ => xfU (a fr σ) fun x σ1 => match xnG x σ1 with
  | some (vs, σ2) => xs2 k b vs fr σ2
  | none => none
theorem xp1 {ρ : List Nat} {v o x p fs σ vs fs'} (R : xia ρ v o fs σ) (hx : FVR ρ v o x p) (e : xnG x fs = some (vs, fs')) : ∃ ws σ', xbo p σ = some (ws, σ') ∧ xgz ρ v o vs ws ∧ xia ρ v o fs' σ' ∧ xkV ρ σ ρ σ' := by
  unfold xnG at e
  cases x with
  | tup xs =>
    dsimp only at e
    split at e
    case isFalse => cases e
    rename_i hz
    cases e
    cases hx with
    | tup _ ps h1 h2 => exact ⟨ps, σ, by unfold xbo; dsimp only; rw [if_pos (h1 ▸ hz)], ⟨h1, h2⟩, R, .refl⟩
  | ref i =>
    dsimp only at e
    cases hx with
    | ref i a ha =>
    split at e
    · rename_i ho
      cases e
      have O := R.obj i a _ ha ho
      cases hob : σ.objs a with
      | list ws =>
        rw [hob] at O
        obtain ⟨R1, K1⟩ := R.set (x := .flist vs) (y := .flist ws) ha O
        exact ⟨ws, _, by unfold xbo; simp only [hob], O, R1, K1⟩
      | _ => rw [hob] at O; exact O.elim
    · rename_i ho
      cases e
      have O := R.obj i a _ ha ho
      cases hob : σ.objs a with
      | flist ws => rw [hob] at O; exact ⟨ws, σ, by unfold xbo; simp only [hob], O, R, .refl⟩
      | _ => rw [hob] at O; exact O.elim
    · cases e
  | _ => cases e
theorem xoz {a b f g} (k : Nat) (ha : QE a f) (hb : QS b g) : QS (xeE k a b) (xtC k f g) := by
  have loop : ∀ (vs : List FV) (ws : List PV) ρ v o ffr fr fs σ x ffr' fs', xgz ρ v o vs ws → FrR ρ v o ffr fr → xia ρ v o fs σ → xs2 k g vs ffr fs = some ((x, ffr'), fs') →
      ∃ ρ' p fr' σ', xeN k b ws fr σ = some ((p, fr'), σ') ∧ xia ρ' v o fs' σ' ∧ xkV ρ σ ρ' σ' ∧ FFR ρ' v o x p ∧ FrR ρ' v o ffr' fr' := by
    intro vs
    induction vs with
    | nil =>
      intro ws ρ v o ffr fr fs σ x ffr' fs' V F R e
      cases ws with
      | cons _ _ => exact absurd V.1 (by simp)
      | nil => cases e; exact ⟨ρ, .next, fr, σ, rfl, R, .refl, trivial, F⟩
    | cons w vs ih =>
      intro ws ρ v o ffr fr fs σ x ffr' fs' V F R e
      cases ws with
      | nil => exact absurd V.1 (by simp)
      | cons q ws =>
        have V0 : FVR ρ v o w q := V.2 0 _ _ rfl rfl
        have V1 : xgz ρ v o vs ws := ⟨by have := V.1; simpa using this, fun k a b e1 e2 => V.2 (k + 1) a b (by simpa using e1) (by simpa using e2)⟩
        obtain ⟨⟨y, fr1⟩, s1, e1, e⟩ := xaO (show xfU (g (ffr.set k (some w)) fs) _ = _ from e)
        obtain ⟨ρ1, p, fr1', σ1, h1, R1, K1, W1, F1⟩ := hb _ _ _ _ _ _ _ _ _ _ (F.set V0 k) R e1
        cases y with
        | next =>
          cases p with
          | next =>
            obtain ⟨ρ2, p2, fr2, σ2, h2, R2, K2, W2, F2⟩ := ih ws ρ1 v o fr1 fr1' s1 σ1 x ffr' fs' (V1.mono K1.pre) F1 R1 e
            exact ⟨ρ2, p2, fr2, σ2, by show bnd (b (fr.set k (some q)) σ) _ = _; rw [xaj h1]; exact h2, R2, K1.trans K2, W2, F2⟩
          | ret p => exact W1.elim
        | ret y =>
          cases e
          cases p with
          | next => exact W1.elim
          | ret p => exact ⟨ρ1, .ret p, fr1', σ1, by show bnd (b (fr.set k (some q)) σ) _ = _; rw [xaj h1], R1, K1, W1, F1⟩
  intro ρ v o ffr fr fs σ x ffr' fs' F R e
  obtain ⟨y, s1, e1, e⟩ := xaO e
  obtain ⟨ρ1, p, σ1, h1, R1, K1, V1⟩ := ha _ _ _ _ _ _ _ _ _ F R e1
  split at e
  case h_2 => cases e
  rename_i vs s2 hi
  obtain ⟨ws, σ2, h2, V2, R2, K2⟩ := xp1 R1 V1 hi
  obtain ⟨ρ3, q, fr3, σ3, h3, R3, K3, W3, F3⟩ := loop vs ws _ _ _ _ _ _ _ _ _ _ V2 (F.mono K1.pre) R2 e
  exact ⟨ρ3, q, fr3, σ3, by unfold xeE; rw [xaj h1, h2]; exact h3, R3, (K1.trans K2).trans K3, W3, F3⟩
end
section
open PySem
theorem xoO {tbl : List (Nat × Nat)} {x v : PV} {σ σ1 : St} (h1 : xaN tbl x σ = some v) (h2 : xbO tbl x v σ = some σ1) : σ1 = σ := by
  unfold xaN at h1
  cases x with
  | ref i =>
    dsimp only at h1
    unfold xbO at h2
    dsimp only at h2
    cases ho : σ.objs i with
    | inst c fs =>
      simp only [ho] at h1 h2
      cases hk : tbl.lookup c with
      | none => simp only [hk] at h1; cases h1
      | some k =>
        simp only [hk] at h1 h2
        have hlt : k < fs.length := (List.getElem?_eq_some_iff.mp h1).1
        rw [if_pos hlt] at h2
        cases h2
        have : fs.set k v = fs := by
          apply List.ext_getElem?
          intro j
          rw [List.getElem?_set]
          by_cases q : k = j
          · rw [if_pos q, if_pos hlt, ← q]; exact h1.symm
          · rw [if_neg q]
        rw [this]
        cases σ with
        | mk objs next =>
          unfold St.set
          congr 1
          funext j
          dsimp only
          by_cases q : j = i
          · rw [if_pos q, q]; exact ho.symm
          · rw [if_neg q]
    | _ => simp only [ho] at h1; cases h1
  | _ => cases h1
noncomputable def xcd : xa6 → M (FR × xa6) := (xa5 (xa7 xal (xa3 0) (xbG xda (xa9 xal (xa3 0)) (xa9 xay (xa3 0)))) (xa5 (xa7 xaI (xa3 0) (xbG xda (xa9 xaI (xa3 0)) (xa9 xay (xa3 0)))) (xa5 (xa7 xaA (xa3 0) (xbG xda (xa9 xaA (xa3 0)) (xa9 xay (xa3 0)))) (xa5 (xeE 1 (xeJ (xa1 (xa9 xat (xa3 0)) (xa1 (xa9 xaf (xa3 0)) xa8))) (xa5 (sIf (xaP (xa3 1) (xai xbc xaW)) (xa5 (xa7 xay (xa3 1) (xbG xda (xa9 xay (xa3 1)) (xa9 xay (xa3 0)))) xaC) xaC) xaC)) (xa5 (xa7 xay (xa3 0) (xaK 0)) xaC)))))
def xhv : xaB → FM (FF × xaB) := (xaE (xaM xal (xaL 0) (xrM xsb (xbp xal (xaL 0)) (xbp xay (xaL 0)))) (xaE (xaM xaI (xaL 0) (xrM xsb (xbp xaI (xaL 0)) (xbp xay (xaL 0)))) (xaE (xaM xaA (xaL 0) (xrM xsb (xbp xaA (xaL 0)) (xbp xay (xaL 0)))) (xaE (xtC 1 (xtD (xaG (xbp xat (xaL 0)) (xaG (xbp xaf (xaL 0)) xc2))) (xaE (gIf (fCh true (xaL 1) xeL) (xaE (xaM xay (xaL 1) (xrM xsb (xbp xay (xaL 1)) (xbp xay (xaL 0)))) xd1) xd1) xd1)) (xaE (xaM xay (xaL 0) (xtY 0)) xd1)))))
def xcY : List FV → FM FV := xlO 1 1 xhv
theorem xlf : QS xcd xhv := (xag (xaD (xaq 0) (xpE (xaV (xaq 0)) (xaV (xaq 0)))) (xag (xaD (xaq 0) (xpE (xaV (xaq 0)) (xaV (xaq 0)))) (xag (xaD (xaq 0) (xpE (xaV (xaq 0)) (xaV (xaq 0)))) (xag (xoz 1 (xsH (xaw (xaV (xaq 0)) (xaw (xaV (xaq 0)) xb5))) (xag (xeM (xct (xaq 1) xd9) (xag (xaD (xaq 1) (xpE (xaV (xaq 1)) (xaV (xaq 0)))) xaX) xaX) xaX)) (xag (xaD (xaq 0) (xt0 0)) xaX)))))
theorem xmb {x y : PV} {σ : St} {r} (h : xda x y σ = some r) : ∃ a b, x = .int a ∧ y = .int b ∧ r = (.int (a + b), σ) := by
  unfold xda at h
  cases x <;> cases y <;> first | (cases h; exact ⟨_, _, rfl, rfl, rfl⟩) | cases h
theorem xfn {tbl : List (Nat × Nat)} {j : Nat} {fr : xa6} {σ : St} {r} (h : xa9 tbl (xa3 j) fr σ = some r) : ∃ x, fr[j]? = some (some x) ∧ xaN tbl x σ = some r.1 ∧ r.2 = σ := by
  obtain ⟨x, σ1, h1, h2⟩ := xah h
  unfold xa3 at h1
  split at h1
  · rename_i x' hx
    cases h1
    split at h2
    · rename_i w hw
      cases h2
      exact ⟨_, hx, hw, rfl⟩
    · cases h2
  · cases h1
theorem xlj {tbl : List (Nat × Nat)} {j : Nat} {fr fr' : xa6} {σ σ1 : St} {f : FR} {x0 : PV} (h : xa7 tbl (xa3 j) (xbG xda (xa9 tbl (xa3 j)) (xa9 xay (xa3 0))) fr σ = some ((f, fr'), σ1))
    (h0 : fr[0]? = some (some x0)) (hz : xaN xay x0 σ = some (.int 0)) : f = .next ∧ fr' = fr ∧ σ1 = σ := by
  obtain ⟨w, s1, q, h⟩ := xah h
  obtain ⟨y, s2, q2, h⟩ := xah h
  obtain ⟨u1, s3, r1, q⟩ := xah q
  obtain ⟨u2, s4, r2, q⟩ := xah q
  obtain ⟨x, hx, g1, e1⟩ := xfn r1
  dsimp only at g1 e1
  subst e1
  obtain ⟨x', hx', g2, e2⟩ := xfn r2
  dsimp only at g2 e2
  subst e2
  rw [h0] at hx'
  cases hx'
  rw [hz] at g2
  cases g2
  obtain ⟨a, b, rfl, hb, hr⟩ := xmb q
  cases hb
  cases hr
  unfold xa3 at q2
  rw [hx] at q2
  cases q2
  split at h
  case h_2 => cases h
  rename_i s5 hp
  cases h
  rw [Int.add_zero] at hp
  exact ⟨rfl, rfl, xoO g1 hp⟩
theorem xqv {ps : List PV} {σ σ' : St} {p : PV} (e : xaT 1 1 xcd ps σ = some (p, σ')) : xba ps σ = some (p, σ') := by
  unfold xaT at e
  split at e
  case isFalse => cases e
  rename_i hl
  match ps, hl with
  | [x], hl =>
  have eO := e
  obtain ⟨⟨y, fr'⟩, s1, e1, eZ⟩ := xah e
  unfold xcd at e1
  obtain ⟨⟨f1, fr1⟩, t1, q1, E1⟩ := xah e1
  have q1' := q1
  obtain ⟨vb, u1, ra, q2⟩ := xah q1
  obtain ⟨vb1, u3, r3, rb⟩ := xah ra
  obtain ⟨vb2, u4, r4, rc⟩ := xah rb
  obtain ⟨x', hx', g1, e3⟩ := xfn r3
  cases hx'
  dsimp only at g1 e3
  subst e3
  obtain ⟨x', hx', g2, e4⟩ := xfn r4
  cases hx'
  dsimp only at g2 e4
  subst e4
  obtain ⟨b, off, rfl, rfl, hr⟩ := xmb rc
  have htest : (xaP (xa9 xay (xa3 0)) (xai cEq (xaK 0))) [some x, none] u4 = some (off == 0, u4) := by
    show bnd (bnd (some (x, u4)) _) _ = _
    show bnd (match xaN xay x u4 with | some v => some (v, u4) | none => none) _ = _
    rw [g2]
    rfl
  have hsh : xba [x] u4 = bnd (bnd (xaP (xa9 xay (xa3 0)) (xai cEq (xaK 0)) [some x, none] u4) (fun t σ1 => if t = true then xa5 xfR xaC [some x, none] σ1 else xaC [some x, none] σ1)) (fun z σ1 => bnd (match z.1 with | .next => xcd z.2 σ1 | .ret v => some ((.ret v, z.2), σ1)) (fun w σ2 => match w.1 with | .ret v => some (v, σ2) | .next => some (.none, σ2))) := by
    unfold xba xaT
    rw [if_pos (show [x].length = 1 from rfl)]
    show bnd (xfD [some x, none] u4) _ = _
    unfold xfD
    show bnd (bnd (bnd (xaP _ _ _ _) _) _) _ = _
    rw [htest]
    show bnd (bnd (if (off == 0) = true then _ else _) _) _ = bnd (if (off == 0) = true then _ else _) _
    cases (off == 0) <;> rfl
  rw [hsh, htest]
  show bnd (if (off == 0) = true then _ else _) _ = _
  by_cases hz : (off == 0) = true
  · rw [if_pos hz]
    have hoff : off = 0 := beq_iff_eq.mp hz
    subst hoff
    show some (PV.none, _) = _
    obtain ⟨rfl, rfl, rfl⟩ := xlj q1' rfl g2
    obtain ⟨⟨f2, fr2⟩, t2, qb, E2⟩ := xah E1
    obtain ⟨rfl, rfl, rfl⟩ := xlj qb rfl g2
    obtain ⟨⟨f3, fr3⟩, t3, qc, E3⟩ := xah E2
    obtain ⟨rfl, rfl, rfl⟩ := xlj qc rfl g2
    obtain ⟨⟨f4, fr4⟩, t4, qd, E4⟩ := xah E3
    have loop : ∀ (vs : List PV) (fr : xa6) (t : St) (r : FR × xa6), fr[0]? = some (some x) →
        xeN 1 (xa5 (sIf (xaP (xa3 1) (xai xbc xaW)) (xa5 (xa7 xay (xa3 1) (xbG xda (xa9 xay (xa3 1)) (xa9 xay (xa3 0)))) xaC) xaC) xaC) vs fr t3 = some (r, t) → r.1 = .next ∧ r.2[0]? = some (some x) ∧ t = t3 := by
      intro vs
      induction vs with
      | nil => intro fr t r h0 h; cases h; exact ⟨rfl, h0, rfl⟩
      | cons w vs ih =>
        intro fr t r h0 h
        obtain ⟨⟨f2, fr2⟩, s3, a2, h2⟩ := xah h
        obtain ⟨⟨f3, fr3⟩, s4, a3, h3⟩ := xah a2
        obtain ⟨c, s5, a4, h4⟩ := xah a3
        have h0' : (fr.set 1 (some w))[0]? = some (some x) := by rw [List.getElem?_set_ne (by decide)]; exact h0
        have hc : s5 = t3 := by
          obtain ⟨z, s6, a5, h5⟩ := xah a4
          obtain ⟨z2, s7, a6, h6⟩ := xah h5
          unfold xa3 at a5
          split at a5
          · cases a5
            cases a6
            split at h6
            · cases h6; rfl
            · cases h6
          · cases a5
        subst hc
        have : (f3, fr3) = (FR.next, fr.set 1 (some w)) ∧ s4 = s5 := by
          cases c with
          | false => cases h4; exact ⟨rfl, rfl⟩
          | true =>
            obtain ⟨⟨f4, fr4⟩, s8, a7, h7⟩ := xah h4
            obtain ⟨rfl, rfl, rfl⟩ := xlj a7 h0' g2
            cases h7
            exact ⟨rfl, rfl⟩
        obtain ⟨h1, rfl⟩ := this
        cases h1
        cases h3
        exact ih _ t r h0' h2
    have hfor : f4 = .next ∧ fr4[0]? = some (some x) ∧ t4 = t3 := by
      obtain ⟨z, t6, q5, q6⟩ := xah qd
      have ht : t6 = t3 ∧ ∃ vs, z = .tup vs := by
        obtain ⟨zs, t7, a6, h6⟩ := xah q5
        obtain ⟨z1, t8, a7, h7⟩ := xah a6
        obtain ⟨_, _, _, e7⟩ := xfn a7
        dsimp only at e7
        subst e7
        obtain ⟨z2, t9, a8, h8⟩ := xah h7
        obtain ⟨z3, t10, a9, h9⟩ := xah a8
        obtain ⟨_, _, _, e9⟩ := xfn a9
        dsimp only at e9
        subst e9
        obtain ⟨z4, t11, a10, h10⟩ := xah h9
        cases a10
        cases h10
        cases h8
        split at h6
        · cases h6; exact ⟨rfl, _, rfl⟩
        · cases h6
      obtain ⟨rfl, vs, rfl⟩ := ht
      split at q6
      · rename_i ws t12 hi
        have : t12 = t6 := by
          unfold xbo at hi
          dsimp only at hi
          split at hi
          · cases hi; rfl
          · cases hi
        subst this
        exact loop ws _ _ _ rfl q6
      · cases q6
    obtain ⟨rfl, h2, rfl⟩ := hfor
    obtain ⟨⟨f5, fr5⟩, t5, qe, E5⟩ := xah E4
    have : f5 = .next ∧ t5 = t4 := by
      obtain ⟨z, t6, q5, q6⟩ := xah qe
      cases q5
      obtain ⟨z2, t7, q7, q8⟩ := xah q6
      unfold xa3 at q7
      rw [h2] at q7
      cases q7
      split at q8
      · rename_i t8 hp
        cases q8
        exact ⟨rfl, xoO g2 hp⟩
      · cases q8
    obtain ⟨rfl, rfl⟩ := this
    cases E5
    exact eZ
  · rw [if_neg hz]
    exact eO
theorem xcV : QF xba xcY := by
  intro ρ v o xs ps fs σ x fs' V R e
  obtain ⟨ρ1, p, σ1, h1, r⟩ := xe5 xlf ρ v o xs ps fs σ x fs' V R e
  exact ⟨ρ1, p, σ1, xqv h1, r⟩
def xir : xaB → FM (FF × xaB) := (xaE (xbC 1 (xsS xc2)) (xaE (xjB (fCh true (xaL 0) xeL) (xaE (xe1 (xqq (xaL 1) (xaL 0))) (xaE (xbC 0 (xbp xau (xaL 0))) xd1)) 9) (xaE (xtC 2 (xuf (xaL 1)) (xaE (xe1 (xcj xcY (xaG (xaL 2) xc2))) xd1)) xd1)))
def xf7 : List FV → FM FV := xlO 1 2 xir
theorem xge : QF xcl xf7 := xe5 (b := xfc) (xag (xb7 1 (xsY xb5)) (xag (xjc 9 (xct (xaq 0) xd9) (xag (xc0 (xrj (xaq 1) (xaq 0))) (xag (xb7 0 (xaV (xaq 0))) xaX))) (xag (xoz 2 (xu8 (xaq 1)) (xag (xc0 (xbD xcV (xaw (xaq 2) xb5))) xaX)) xaX)))
def xiq : xaB → FM (FF × xaB) := (xaE (xbC 1 (xbp xaI (xaL 0))) (xaE (xtC 2 (xtD (xaG (xbp xat (xaL 0)) (xaG (xbp xaf (xaL 0)) xc2))) (xaE (gIf (fCh true (xaL 2) xeL) (xaE (xbC 1 (xcj xtT (xaG (xaL 1) (xaG (xrM xsb (xbp xaA (xaL 2)) (xbp xay (xaL 2))) xc2)))) xd1) xd1) xd1)) (xaE (xpL (xaL 1)) xd1)))
def xcq : List FV → FM FV := xlO 1 2 xiq
theorem xcz : QF xaZ xcq := xe5 (b := xcm) (xag (xb7 1 (xaV (xaq 0))) (xag (xoz 2 (xsH (xaw (xaV (xaq 0)) (xaw (xaV (xaq 0)) xb5))) (xag (xeM (xct (xaq 2) xd9) (xag (xb7 1 (xbD xsW (xaw (xaq 1) (xaw (xpE (xaV (xaq 2)) (xaV (xaq 2))) xb5)))) xaX) xaX) xaX)) (xag (xgO (xaq 1)) xaX)))
def xr2 : xaB → FM (FF × xaB) := (xaE (gIf (fCh false (xaL 1) xeL) (xaE (xaM xbh (xaL 0) (xaL 3)) xd1) (xaE (gIf (fCh false (xbp xat (xaL 1)) (xaL 2)) (xaE (xaM xat (xaL 1) (xaL 3)) xd1) (xaE (xaM xaf (xaL 1) (xaL 3)) xd1)) xd1)) (xaE (gIf (fCh true (xaL 3) xeL) (xaE (xaM xau (xaL 3) (xaL 1)) xd1) xd1) xd1))
def xn6 : List FV → FM FV := xlO 4 0 xr2
theorem xlN : QF xjo xn6 := xe5 (b := xpW) (xag (xeM (xl0 (xaq 1) xd9) (xag (xaD (xaq 0) (xaq 3)) xaX) (xag (xeM (xl0 (xaV (xaq 1)) (xaq 2)) (xag (xaD (xaq 1) (xaq 3)) xaX) (xag (xaD (xaq 1) (xaq 3)) xaX)) xaX)) (xag (xeM (xct (xaq 3) xd9) (xag (xaD (xaq 3) (xaq 1)) xaX) xaX) xaX))
def xlp : xaB → FM (FF × xaB) := (xaE (xbC 2 (xbp xaf (xaL 1))) (xaE (xe1 (xcj xcY (xaG (xaL 1) xc2))) (xaE (xe1 (xcj xcY (xaG (xaL 2) xc2))) (xaE (xaM xaf (xaL 1) (xbp xat (xaL 2))) (xaE (gIf (fCh true (xbp xat (xaL 2)) xeL) (xaE (xaM xau (xbp xat (xaL 2)) (xaL 1)) xd1) xd1) (xaE (xe1 (xcj xn6 (xaG (xaL 0) (xaG (xbp xau (xaL 1)) (xaG (xaL 1) (xaG (xaL 2) xc2)))))) (xaE (xaM xat (xaL 2) (xaL 1)) (xaE (xaM xau (xaL 1) (xaL 2)) (xaE (xaM xaA (xaL 1) (xcj xcq (xaG (xaL 1) xc2))) (xaE (xaM xaA (xaL 2) (xcj xcq (xaG (xaL 2) xc2))) xd1))))))))))
def xfG : List FV → FM FV := xlO 2 1 xlp
theorem xgp : QF xdP xfG := xe5 (b := xgS) (xag (xb7 2 (xaV (xaq 1))) (xag (xc0 (xbD xcV (xaw (xaq 1) xb5))) (xag (xc0 (xbD xcV (xaw (xaq 2) xb5))) (xag (xaD (xaq 1) (xaV (xaq 2))) (xag (xeM (xct (xaV (xaq 2)) xd9) (xag (xaD (xaV (xaq 2)) (xaq 1)) xaX) xaX) (xag (xc0 (xbD xlN (xaw (xaq 0) (xaw (xaV (xaq 1)) (xaw (xaq 1) (xaw (xaq 2) xb5)))))) (xag (xaD (xaq 2) (xaq 1)) (xag (xaD (xaq 1) (xaq 2)) (xag (xaD (xaq 1) (xbD xcz (xaw (xaq 1) xb5))) (xag (xaD (xaq 2) (xbD xcz (xaw (xaq 2) xb5))) xaX))))))))))
def xka : xaB → FM (FF × xaB) := (xaE (xbC 2 (xbp xat (xaL 1))) (xaE (xe1 (xcj xcY (xaG (xaL 1) xc2))) (xaE (xe1 (xcj xcY (xaG (xaL 2) xc2))) (xaE (xaM xat (xaL 1) (xbp xaf (xaL 2))) (xaE (gIf (fCh true (xbp xaf (xaL 2)) xeL) (xaE (xaM xau (xbp xaf (xaL 2)) (xaL 1)) xd1) xd1) (xaE (xe1 (xcj xn6 (xaG (xaL 0) (xaG (xbp xau (xaL 1)) (xaG (xaL 1) (xaG (xaL 2) xc2)))))) (xaE (xaM xaf (xaL 2) (xaL 1)) (xaE (xaM xau (xaL 1) (xaL 2)) (xaE (xaM xaA (xaL 1) (xcj xcq (xaG (xaL 1) xc2))) (xaE (xaM xaA (xaL 2) (xcj xcq (xaG (xaL 2) xc2))) xd1))))))))))
def xeU : List FV → FM FV := xlO 2 1 xka
theorem xfC : QF xdj xeU := xe5 (b := xgg) (xag (xb7 2 (xaV (xaq 1))) (xag (xc0 (xbD xcV (xaw (xaq 1) xb5))) (xag (xc0 (xbD xcV (xaw (xaq 2) xb5))) (xag (xaD (xaq 1) (xaV (xaq 2))) (xag (xeM (xct (xaV (xaq 2)) xd9) (xag (xaD (xaV (xaq 2)) (xaq 1)) xaX) xaX) (xag (xc0 (xbD xlN (xaw (xaq 0) (xaw (xaV (xaq 1)) (xaw (xaq 1) (xaw (xaq 2) xb5)))))) (xag (xaD (xaq 2) (xaq 1)) (xag (xaD (xaq 1) (xaq 2)) (xag (xaD (xaq 1) (xbD xcz (xaw (xaq 1) xb5))) (xag (xaD (xaq 2) (xbD xcz (xaw (xaq 2) xb5))) xaX))))))))))
def xoZ : xaB → FM (FF × xaB) := (xaE (xpL (xtl (xsO (fCh true (xaL 0) xeL)) (xbp xan (xaL 0)))) xd1)
def xeZ : List FV → FM FV := xlO 1 0 xoZ
theorem xex : QF xdW xeZ := xe5 (b := xlJ) (xag (xgO (xu1 (xrS (xct (xaq 0) xd9)) (xaV (xaq 0)))) xaX)
def xhP : xaB → FM (FF × xaB) := (xaE (xbC 3 (xbp xau (xaL 1))) (xaE (gIf (xq6 (xd7 (xaL 2)) (xq6 (fCh false (xbp xaf (xaL 3)) (xaL 1)) xp2)) (xaE (xe1 (xcj xfG (xaG (xaL 0) (xaG (xaL 3) xc2)))) (xaE (xpL (xaL 3)) xd1)) xd1) (xaE (gIf (xq6 (xqU (xd7 (xaL 2))) (xq6 (fCh false (xbp xat (xaL 3)) (xaL 1)) xp2)) (xaE (xe1 (xcj xeU (xaG (xaL 0) (xaG (xaL 3) xc2)))) (xaE (xpL (xaL 3)) xd1)) xd1) (xaE (xpL (xaL 1)) xd1))))
def xgc : List FV → FM FV := xlO 3 1 xhP
theorem xiC : QF xdp xgc := xe5 (b := xez) (xag (xb7 3 (xaV (xaq 1))) (xag (xeM (xgN (xca (xaq 2)) (xgN (xl0 (xaV (xaq 3)) (xaq 1)) xiQ)) (xag (xc0 (xbD xgp (xaw (xaq 0) (xaw (xaq 3) xb5)))) (xag (xgO (xaq 3)) xaX)) xaX) (xag (xeM (xgN (xkB (xca (xaq 2))) (xgN (xl0 (xaV (xaq 3)) (xaq 1)) xiQ)) (xag (xc0 (xbD xfC (xaw (xaq 0) (xaw (xaq 3) xb5)))) (xag (xgO (xaq 3)) xaX)) xaX) (xag (xgO (xaq 1)) xaX))))
def xgX : xaB → FM (FF × xaB) := (xaE (xjB (xd7 (xcj xeZ (xaG (xbp xau (xaL 1)) xc2))) (xaE (xbC 2 (xbp xau (xaL 1))) (xaE (xbC 3 (xbp xau (xaL 2))) (xaE (xbC 4 (xsO (fCh false (xbp xat (xaL 3)) (xaL 2)))) (xaE (xbC 5 (xrJ (xd7 (xaL 4)) (xbp xaf (xaL 3)) (xbp xat (xaL 3)))) (xaE (gIf (xd7 (xcj xeZ (xaG (xaL 5) xc2))) (xaE (xaM xan (xaL 2) (xgI false)) (xaE (xaM xan (xaL 5) (xgI false)) (xaE (xaM xan (xaL 3) (xgI true)) (xaE (xbC 1 (xaL 3)) xd1)))) (xaE (xbC 1 (xcj xgc (xaG (xaL 0) (xaG (xaL 1) (xaG (xaL 4) xc2))))) (xaE (xaM xan (xbp xau (xaL 1)) (xgI false)) (xaE (xaM xan (xaL 3) (xgI true)) (xaE (gIf (xd7 (xaL 4)) (xaE (xe1 (xcj xeU (xaG (xaL 0) (xaG (xaL 3) xc2)))) xd1) (xaE (xe1 (xcj xfG (xaG (xaL 0) (xaG (xaL 3) xc2)))) xd1)) xd1))))) xd1))))) 9) (xaE (xaM xan (xbp xbh (xaL 0)) (xgI false)) xd1))
def xfm : List FV → FM FV := xlO 2 4 xgX
theorem xhy : QF xbU xfm := xe5 (b := xdN) (xag (xjc 9 (xca (xbD xex (xaw (xaV (xaq 1)) xb5))) (xag (xb7 2 (xaV (xaq 1))) (xag (xb7 3 (xaV (xaq 2))) (xag (xb7 4 (xrS (xl0 (xaV (xaq 3)) (xaq 2)))) (xag (xb7 5 (xsu (xca (xaq 4)) (xaV (xaq 3)) (xaV (xaq 3)))) (xag (xeM (xca (xbD xex (xaw (xaq 5) xb5))) (xag (xaD (xaq 2) (xeB false)) (xag (xaD (xaq 5) (xeB false)) (xag (xaD (xaq 3) (xeB true)) (xag (xb7 1 (xaq 3)) xaX)))) (xag (xb7 1 (xbD xiC (xaw (xaq 0) (xaw (xaq 1) (xaw (xaq 4) xb5))))) (xag (xaD (xaV (xaq 1)) (xeB false)) (xag (xaD (xaq 3) (xeB true)) (xag (xeM (xca (xaq 4)) (xag (xc0 (xbD xfC (xaw (xaq 0) (xaw (xaq 3) xb5)))) xaX) (xag (xc0 (xbD xgp (xaw (xaq 0) (xaw (xaq 3) xb5)))) xaX)) xaX))))) xaX)))))) (xag (xaD (xaV (xaq 0)) (xeB false)) xaX))
def xjg : xaB → FM (FF × xaB) := (xaE (xe1 (xcj xcY (xaG (xaL 0) xc2))) (xaE (xjB (fCh true (xbp xat (xaL 0)) xeL) (xaE (xbC 0 (xbp xat (xaL 0))) (xaE (xe1 (xcj xcY (xaG (xaL 0) xc2))) xd1)) 9) (xaE (xpL (xaL 0)) xd1)))
def xhl : List FV → FM FV := xlO 1 0 xjg
theorem xk0 : QF xed xhl := xe5 (b := xfL) (xag (xc0 (xbD xcV (xaw (xaq 0) xb5))) (xag (xjc 9 (xct (xaV (xaq 0)) xd9) (xag (xb7 0 (xaV (xaq 0))) (xag (xc0 (xbD xcV (xaw (xaq 0) xb5))) xaX))) (xag (xgO (xaq 0)) xaX)))
def xjP : xaB → FM (FF × xaB) := (xaE (xe1 (xcj xn6 (xaG (xaL 0) (xaG (xbp xau (xaL 1)) (xaG (xaL 1) (xaG (xaL 2) xc2)))))) (xaE (xaM xat (xaL 2) (xbp xat (xaL 1))) (xaE (xaM xaf (xaL 2) (xbp xaf (xaL 1))) (xaE (xaM xan (xaL 2) (xbp xan (xaL 1))) (xaE (xtC 3 (xtD (xaG (xbp xat (xaL 2)) (xaG (xbp xaf (xaL 2)) xc2))) (xaE (gIf (fCh true (xaL 3) xeL) (xaE (xaM xau (xaL 3) (xaL 2)) xd1) xd1) xd1)) (xaE (xaM xaA (xaL 2) (xcj xcq (xaG (xaL 2) xc2))) xd1))))))
def xic : List FV → FM FV := xlO 3 1 xjP
theorem xlu : QF xf0 xic := xe5 (b := xga) (xag (xc0 (xbD xlN (xaw (xaq 0) (xaw (xaV (xaq 1)) (xaw (xaq 1) (xaw (xaq 2) xb5)))))) (xag (xaD (xaq 2) (xaV (xaq 1))) (xag (xaD (xaq 2) (xaV (xaq 1))) (xag (xaD (xaq 2) (xaV (xaq 1))) (xag (xoz 3 (xsH (xaw (xaV (xaq 2)) (xaw (xaV (xaq 2)) xb5))) (xag (xeM (xct (xaq 3) xd9) (xag (xaD (xaq 3) (xaq 2)) xaX) xaX) xaX)) (xag (xaD (xaq 2) (xbD xcz (xaw (xaq 2) xb5))) xaX))))))
def xjR : xaB → FM (FF × xaB) := (xaE (xpL (xrJ (xd7 (xaL 1)) (xbp xaf (xaL 0)) (xbp xat (xaL 0)))) xd1)
def xeX : List FV → FM FV := xlO 2 0 xjR
theorem xfH : QF xdm xeX := xe5 (b := xgl) (xag (xgO (xsu (xca (xaq 1)) (xaV (xaq 0)) (xaV (xaq 0)))) xaX)
def xik : xaB → FM (FF × xaB) := (xaE (gIf (xd7 (xaL 2)) (xaE (xe1 (xcj xfG (xaG (xaL 0) (xaG (xaL 1) xc2)))) xd1) (xaE (xe1 (xcj xeU (xaG (xaL 0) (xaG (xaL 1) xc2)))) xd1)) xd1)
def xdX : List FV → FM FV := xlO 3 0 xik
theorem xek : QF xcL xdX := xe5 (b := xf9) (xag (xeM (xca (xaq 2)) (xag (xc0 (xbD xgp (xaw (xaq 0) (xaw (xaq 1) xb5)))) xaX) (xag (xc0 (xbD xfC (xaw (xaq 0) (xaw (xaq 1) xb5)))) xaX)) xaX)
def xlr : xaB → FM (FF × xaB) := (xaE (xbC 4 (xcj xeX (xaG (xaL 2) (xaG (xaL 3) xc2)))) (xaE (gIf (xd7 (xcj xeZ (xaG (xaL 4) xc2))) (xaE (xaM xan (xaL 4) (xgI false)) (xaE (xaM xan (xaL 2) (xgI true)) (xaE (xe1 (xcj xdX (xaG (xaL 0) (xaG (xaL 2) (xaG (xaL 3) xc2))))) (xaE (xbC 4 (xcj xeX (xaG (xaL 2) (xaG (xaL 3) xc2)))) xd1)))) xd1) (xaE (xbC 5 (xrJ (xd7 (xaL 3)) (xbp xaf (xaL 4)) (xbp xat (xaL 4)))) (xaE (xbC 6 (xrJ (xd7 (xaL 3)) (xbp xat (xaL 4)) (xbp xaf (xaL 4)))) (xaE (gIf (xq6 (xqU (xd7 (xcj xeZ (xaG (xaL 5) xc2)))) (xq6 (xqU (xd7 (xcj xeZ (xaG (xaL 6) xc2)))) xp2)) (xaE (xaM xan (xaL 4) (xgI true)) (xaE (gIf (fOr (xd7 (xbp xan (xaL 2))) (fOr (fCh false (xaL 2) (xbp xbh (xaL 0))) xrD)) (xaE (xaM xan (xaL 2) (xgI false)) (xaE (xpL xeL) xd1)) xd1) (xaE (xpL (xaL 2)) xd1))) xd1) (xaE (gIf (xqU (xd7 (xcj xeZ (xaG (xaL 5) xc2)))) (xaE (xaM xan (xaL 6) (xgI false)) (xaE (xaM xan (xaL 4) (xgI true)) (xaE (xe1 (xcj xdX (xaG (xaL 0) (xaG (xaL 4) (xaG (xsO (xqU (xd7 (xaL 3)))) xc2))))) (xaE (xbC 4 (xcj xeX (xaG (xaL 2) (xaG (xaL 3) xc2)))) (xaE (xbC 5 (xrJ (xd7 (xaL 3)) (xbp xaf (xaL 4)) (xbp xat (xaL 4)))) xd1))))) xd1) (xaE (xaM xan (xaL 4) (xbp xan (xaL 2))) (xaE (xaM xan (xaL 2) (xgI false)) (xaE (xaM xan (xaL 5) (xgI false)) (xaE (xe1 (xcj xdX (xaG (xaL 0) (xaG (xaL 2) (xaG (xaL 3) xc2))))) (xaE (xpL xeL) xd1)))))))))))
def xiZ : List FV → FM FV := xlO 4 3 xlr
theorem xm5 : QF xfB xiZ := xe5 (b := xh9) (xag (xb7 4 (xbD xfH (xaw (xaq 2) (xaw (xaq 3) xb5)))) (xag (xeM (xca (xbD xex (xaw (xaq 4) xb5))) (xag (xaD (xaq 4) (xeB false)) (xag (xaD (xaq 2) (xeB true)) (xag (xc0 (xbD xek (xaw (xaq 0) (xaw (xaq 2) (xaw (xaq 3) xb5))))) (xag (xb7 4 (xbD xfH (xaw (xaq 2) (xaw (xaq 3) xb5)))) xaX)))) xaX) (xag (xb7 5 (xsu (xca (xaq 3)) (xaV (xaq 4)) (xaV (xaq 4)))) (xag (xb7 6 (xsu (xca (xaq 3)) (xaV (xaq 4)) (xaV (xaq 4)))) (xag (xeM (xgN (xkB (xca (xbD xex (xaw (xaq 5) xb5)))) (xgN (xkB (xca (xbD xex (xaw (xaq 6) xb5)))) xiQ)) (xag (xaD (xaq 4) (xeB true)) (xag (xeM (xts (xca (xaV (xaq 2))) (xts (xl0 (xaq 2) (xaV (xaq 0))) xrg)) (xag (xaD (xaq 2) (xeB false)) (xag (xgO xd9) xaX)) xaX) (xag (xgO (xaq 2)) xaX))) xaX) (xag (xeM (xkB (xca (xbD xex (xaw (xaq 5) xb5)))) (xag (xaD (xaq 6) (xeB false)) (xag (xaD (xaq 4) (xeB true)) (xag (xc0 (xbD xek (xaw (xaq 0) (xaw (xaq 4) (xaw (xtM (xaq 3)) xb5))))) (xag (xb7 4 (xbD xfH (xaw (xaq 2) (xaw (xaq 3) xb5)))) (xag (xb7 5 (xsu (xca (xaq 3)) (xaV (xaq 4)) (xaV (xaq 4)))) xaX))))) xaX) (xag (xaD (xaq 4) (xaV (xaq 2))) (xag (xaD (xaq 2) (xeB false)) (xag (xaD (xaq 5) (xeB false)) (xag (xc0 (xbD xek (xaw (xaq 0) (xaw (xaq 2) (xaw (xaq 3) xb5))))) (xag (xgO xd9) xaX)))))))))))
def xhn : xaB → FM (FF × xaB) := (xaE (xjB (xq6 (fCh true (xaL 1) (xbp xbh (xaL 0))) (xq6 (xqU (xd7 (xcj xeZ (xaG (xaL 1) xc2)))) xp2)) (xaE (xbC 3 (xsO (fCh false (xbp xat (xaL 2)) (xaL 1)))) (xaE (xbC 1 (xcj xiZ (xaG (xaL 0) (xaG (xaL 1) (xaG (xaL 2) (xaG (xaL 3) xc2)))))) (xaE (gIf (fCh false (xaL 1) xeL) (xaE xto xd1) xd1) (xaE (xbC 2 (xbp xau (xaL 1))) xd1)))) 9) (xaE (gIf (fCh true (xaL 1) xeL) (xaE (xaM xan (xaL 1) (xgI false)) xd1) xd1) xd1))
def xfP : List FV → FM FV := xlO 3 1 xhn
theorem xhM : QF xde xfP := xe5 (b := xdZ) (xag (xjc 9 (xgN (xct (xaq 1) (xaV (xaq 0))) (xgN (xkB (xca (xbD xex (xaw (xaq 1) xb5)))) xiQ)) (xag (xb7 3 (xrS (xl0 (xaV (xaq 2)) (xaq 1)))) (xag (xb7 1 (xbD xm5 (xaw (xaq 0) (xaw (xaq 1) (xaw (xaq 2) (xaw (xaq 3) xb5)))))) (xag (xeM (xl0 (xaq 1) xd9) (xag xsz xaX) xaX) (xag (xb7 2 (xaV (xaq 1))) xaX))))) (xag (xeM (xct (xaq 1) xd9) (xag (xaD (xaq 1) (xeB false)) xaX) xaX) xaX))
def xlI : xaB → FM (FF × xaB) := (xaE (xaM xcu (xaL 0) (xrM xrP (xbp xcu (xaL 0)) (xtY 1))) (xaE (xe1 (xcj xf7 (xaG (xaL 1) xc2))) (xaE (xbC 2 (xaL 1)) (xaE (gIf (xq6 (fCh true (xbp xat (xaL 1)) xeL) (xq6 (fCh true (xbp xaf (xaL 1)) xeL) xp2)) (xaE (xbC 2 (xcj xhl (xaG (xbp xaf (xaL 1)) xc2))) xd1) xd1) (xaE (xbC 3 (xrJ (fCh true (xbp xat (xaL 2)) xeL) (xbp xat (xaL 2)) (xbp xaf (xaL 2)))) (xaE (xbC 4 (xbp xau (xaL 2))) (xaE (xbC 5 (xbp xan (xaL 2))) (xaE (xe1 (xcj xn6 (xaG (xaL 0) (xaG (xaL 4) (xaG (xaL 2) (xaG (xaL 3) xc2)))))) (xaE (gIf (fCh true (xaL 2) (xaL 1)) (xaE (xe1 (xcj xic (xaG (xaL 0) (xaG (xaL 1) (xaG (xaL 2) xc2))))) (xaE (xbC 4 (xrJ (fCh false (xaL 4) (xaL 1)) (xaL 2) (xaL 4))) xd1)) xd1) (xaE (xbC 6 (xaL 4)) (xaE (xjB (fCh true (xaL 6) xeL) (xaE (xaM xaA (xaL 6) (xcj xcq (xaG (xaL 6) xc2))) (xaE (xbC 6 (xbp xau (xaL 6))) xd1)) 9) (xaE (gIf (xqU (xd7 (xaL 5))) (xaE (xe1 (xcj xfP (xaG (xaL 0) (xaG (xaL 3) (xaG (xaL 4) xc2))))) xd1) xd1) (xaE (xaM xat (xaL 1) xeL) (xaE (xaM xaf (xaL 1) xeL) (xaE (xaM xau (xaL 1) xeL) xd1)))))))))))))))
def xj5 : List FV → FM FV := xlO 2 5 xlI
theorem xm6 : QF xdf xj5 := xe5 (b := xgW) (xag (xaD (xaq 0) (xtq (xaV (xaq 0)) (xt0 1))) (xag (xc0 (xbD xge (xaw (xaq 1) xb5))) (xag (xb7 2 (xaq 1)) (xag (xeM (xgN (xct (xaV (xaq 1)) xd9) (xgN (xct (xaV (xaq 1)) xd9) xiQ)) (xag (xb7 2 (xbD xk0 (xaw (xaV (xaq 1)) xb5))) xaX) xaX) (xag (xb7 3 (xsu (xct (xaV (xaq 2)) xd9) (xaV (xaq 2)) (xaV (xaq 2)))) (xag (xb7 4 (xaV (xaq 2))) (xag (xb7 5 (xaV (xaq 2))) (xag (xc0 (xbD xlN (xaw (xaq 0) (xaw (xaq 4) (xaw (xaq 2) (xaw (xaq 3) xb5)))))) (xag (xeM (xct (xaq 2) (xaq 1)) (xag (xc0 (xbD xlu (xaw (xaq 0) (xaw (xaq 1) (xaw (xaq 2) xb5))))) (xag (xb7 4 (xsu (xl0 (xaq 4) (xaq 1)) (xaq 2) (xaq 4))) xaX)) xaX) (xag (xb7 6 (xaq 4)) (xag (xjc 9 (xct (xaq 6) xd9) (xag (xaD (xaq 6) (xbD xcz (xaw (xaq 6) xb5))) (xag (xb7 6 (xaV (xaq 6))) xaX))) (xag (xeM (xkB (xca (xaq 5))) (xag (xc0 (xbD xhM (xaw (xaq 0) (xaw (xaq 3) (xaw (xaq 4) xb5))))) xaX) xaX) (xag (xaD (xaq 1) xd9) (xag (xaD (xaq 1) xd9) (xag (xaD (xaq 1) xd9) xaX)))))))))))))))
end
section
open PySem
inductive Sh where
  | E | N (l : Sh) (red : Bool) (r : Sh)
  deriving DecidableEq, Inhabited, Repr
def Sh.size : Sh → Nat
  | .E => 0
  | .N l _ r => l.size + 1 + r.size
inductive RT where
  | E | N (l : RT) (id : Nat) (b e lim off : FE) (red : Bool) (r : RT)
  deriving Inhabited
def RT.ptr : RT → FV
  | .E => .none
  | .N _ id _ _ _ _ _ _ => .ref id
def rt0 : Sh → Nat → RT
  | .E, _ => .E
  | .N l c r, base => .N (rt0 l base) (base + l.size) (.var (4 * (base + l.size))) (.var (4 * (base + l.size) + 1)) (.var (4 * (base + l.size) + 2)) (.var (4 * (base + l.size) + 3)) c (rt0 r (base + l.size + 1))
def ndF (id : Nat) (b e lim off : FE) (red : Bool) (l r p : FV) : FO :=
  .inst 0 [.opq (3 * id), .int b, .int e, .opq (3 * id + 1), .opq (3 * id + 2), .int lim, .int off, .bool red, l, r, p]
def RT.objs : RT → FV → List FO
  | .E, _ => []
  | .N l id b e lim off red r, p => l.objs (.ref id) ++ ndF id b e lim off red l.ptr r.ptr p :: r.objs (.ref id)
def xrp (s : Sh) : FS := .inst 1 [(rt0 s 1).ptr, .int (.var 0)] :: (rt0 s 1).objs .none
def FV.sameP : FV → FV → Bool
  | .none, .none => true
  | .ref i, .ref j => i == j
  | _, _ => false
def xju (fs : FS) : Nat → FV → FV → Option RT
  | _, _, .none => some .E
  | n + 1, p, .ref i => match fs[i]? with
    | some (.inst 0 [.opq a, .int b, .int e, .opq a1, .opq a2, .int lim, .int off, .bool red, l, r, q]) =>
      if a == 3 * i && a1 == 3 * i + 1 && a2 == 3 * i + 2 && FV.sameP p q then
        (match xju fs n (.ref i) l, xju fs n (.ref i) r with
        | some l, some r => some (.N l i b e lim off red r)
        | _, _ => none)
      else none
    | _ => none
  | _, _, _ => none
def RT.shape : RT → Sh
  | .E => .E
  | .N l _ _ _ _ _ c r => .N l.shape c r.shape
def RT.ids : RT → List Nat
  | .E => []
  | .N l id _ _ _ _ _ r => l.ids ++ id :: r.ids
def xrH (fs : FS) : Option FV := match fs with
  | .inst 1 [x, .int _] :: _ => some x
  | _ => none
def xrC (fs : FS) : Option RT := match xrH fs with
  | some x => xju fs 8 .none x
  | none => none
def xiB : Sh → Nat → Sh
  | .E, _ => .N .E true .E
  | .N l c r, k => if k ≤ l.size then .N (xiB l k) c r else .N l c (xiB r (k - l.size - 1))
def xsP (k : Nat) : List Nat → List Nat
  | [] => [k]
  | j :: l => if k ≤ j then k :: j :: l else j :: xsP k l
def xmn : List Nat → List Nat → List Nat
  | [], y => y
  | k :: x, y => xsP k (xmn x y)
abbrev LF := List Nat × Int
def LF.plus (a b : LF) : LF := (xmn a.1 b.1, a.2 + b.2)
def LF.val (v : Nat → Int) (a : LF) : Int := a.1.foldr (fun k s => v k + s) 0 + a.2
def FE.nf : FE → Option LF
  | .var k => some ([k], 0)
  | .lit k => some ([], k)
  | .add a b => match a.nf, b.nf with | some x, some y => some (x.plus y) | _, _ => none
  | .mx _ _ => none
def FE.nfm : FE → List LF
  | .var k => [([k], 0)]
  | .lit k => [([], k)]
  | .add a b => a.nfm.flatMap fun x => b.nfm.map fun y => x.plus y
  | .mx a b => a.nfm ++ b.nfm
def LF.same (a b : LF) : Bool := a.1 == b.1 && a.2 == b.2
def LF.dom (xgL : List (List Nat × Nat)) : Nat → LF → LF → Bool
  | 0, f, g => f.same g
  | n + 1, f, g => f.same g || xgL.any fun p => g.1.contains p.2 && LF.dom xgL n f (xmn p.1 (g.1.erase p.2), g.2)
def FE.le (xgL : List (List Nat × Nat)) (a b : FE) : Bool := a.nfm.all fun f => b.nfm.any fun g => f.dom xgL 8 g
def RT.top : RT → Option FE
  | .E => none
  | .N _ _ _ _ lim off _ _ => some (.add lim off)
def RT.ubOk (xgL : List (List Nat × Nat)) : RT → Bool
  | .E => true
  | .N l _ _ e lim _ _ r => e.le xgL lim && (match l.top with | some m => m.le xgL lim | none => true) && (match r.top with | some m => m.le xgL lim | none => true) && l.ubOk xgL && r.ubOk xgL
def xtU : Sh → Nat → List (List Nat)
  | .E, _ => []
  | .N l _ _, base => [[4 * (base + l.size) + 2, 4 * (base + l.size) + 3]]
def xgL : Sh → Nat → List (List Nat × Nat)
  | .E, _ => []
  | .N l c r, base => ([4 * (base + l.size) + 1], 4 * (base + l.size) + 2) :: ((xtU l base ++ xtU r (base + l.size + 1)).map fun m => (m, 4 * (base + l.size) + 2)) ++ xgL l base ++ xgL r (base + l.size + 1)
def RT.eff : RT → FE → List (Nat × FE × FE)
  | .E, _ => []
  | .N l id b e _ off _ r, acc => l.eff (.add acc off) ++ (id, .add b (.add acc off), .add e (.add acc off)) :: r.eff (.add acc off)
def xs4 (a b : Nat × FE × FE) : Bool := a.1 == b.1 && (match a.2.1.nf, b.2.1.nf with | some x, some y => x.same y | _, _ => false) && (match a.2.2.nf, b.2.2.nf with | some x, some y => x.same y | _, _ => false)
def xoG : List (Nat × FE × FE) → List (Nat × FE × FE) → Bool
  | [], [] => true
  | a :: x, b :: y => xs4 a b && xoG x y
  | _, _ => false
def LS0 : List Sh := [.E, (.N .E false .E), (.N (.N .E true .E) false .E), (.N .E false (.N .E true .E)), (.N (.N .E true .E) false (.N .E true .E)), (.N (.N .E false .E) false (.N .E false .E)), (.N (.N (.N .E true .E) false .E) false (.N .E false .E)), (.N (.N .E false (.N .E true .E)) false (.N .E false .E)), (.N (.N .E false .E) false (.N (.N .E true .E) false .E)), (.N (.N .E false .E) false (.N .E false (.N .E true .E))), (.N (.N (.N .E true .E) false (.N .E true .E)) false (.N .E false .E))]
def LS1 : List Sh := [(.N (.N (.N .E true .E) false .E) false (.N (.N .E true .E) false .E)), (.N (.N (.N .E true .E) false .E) false (.N .E false (.N .E true .E))), (.N (.N .E false (.N .E true .E)) false (.N (.N .E true .E) false .E)), (.N (.N .E false (.N .E true .E)) false (.N .E false (.N .E true .E)))]
def LS2 : List Sh := [(.N (.N .E false .E) false (.N (.N .E true .E) false (.N .E true .E))), (.N (.N (.N .E false .E) true (.N .E false .E)) false (.N .E false .E)), (.N (.N .E false .E) false (.N (.N .E false .E) true (.N .E false .E))), (.N (.N (.N (.N .E true .E) false .E) true (.N .E false .E)) false (.N .E false .E))]
def LS3 : List Sh := [(.N (.N (.N .E false (.N .E true .E)) true (.N .E false .E)) false (.N .E false .E)), (.N (.N (.N .E false .E) true (.N (.N .E true .E) false .E)) false (.N .E false .E)), (.N (.N (.N .E false .E) true (.N .E false (.N .E true .E))) false (.N .E false .E))]
def LS4 : List Sh := [(.N (.N (.N .E true .E) false (.N .E true .E)) false (.N (.N .E true .E) false .E)), (.N (.N (.N .E true .E) false (.N .E true .E)) false (.N .E false (.N .E true .E))), (.N (.N (.N .E true .E) false .E) false (.N (.N .E true .E) false (.N .E true .E)))]
def LS5 : List Sh := [(.N (.N .E false (.N .E true .E)) false (.N (.N .E true .E) false (.N .E true .E))), (.N (.N .E false .E) false (.N (.N (.N .E true .E) false .E) true (.N .E false .E))), (.N (.N .E false .E) false (.N (.N .E false (.N .E true .E)) true (.N .E false .E)))]
def LS6 : List Sh := [(.N (.N .E false .E) false (.N (.N .E false .E) true (.N (.N .E true .E) false .E))), (.N (.N .E false .E) false (.N (.N .E false .E) true (.N .E false (.N .E true .E)))), (.N (.N (.N .E false .E) true (.N .E false .E)) false (.N (.N .E true .E) false .E))]
def LS7 : List Sh := [(.N (.N (.N .E false .E) true (.N .E false .E)) false (.N .E false (.N .E true .E))), (.N (.N (.N .E true .E) false .E) false (.N (.N .E false .E) true (.N .E false .E))), (.N (.N .E false (.N .E true .E)) false (.N (.N .E false .E) true (.N .E false .E)))]
def LS : List Sh := LS0 ++ LS1 ++ LS2 ++ LS3 ++ LS4 ++ LS5 ++ LS6 ++ LS7
def xui (s : Sh) : Bool := LS.contains s
def xhG (s : Sh) (old : List (Nat × FE × FE)) (fs : FS) : Bool := match xrC fs with
  | some rt => xoG (rt.eff (.lit 0)) old && rt.ubOk (xgL s 1) && xui rt.shape
  | none => false
def xkH (s : Sh) (k : Nat) : Bool := match xfm [.ref 0, .ref (k + 1)] (xrp (xiB s k)) with
  | some (_, fs) => xhG (xiB s k) ((rt0 (xiB s k) 1).eff (.lit 0)) fs
  | none => false
def xmc (i : Nat) (x : Option FO) : Bool := match x with
  | some (.inst 0 [.opq a, .int _, .int _, .opq a1, .opq a2, .int _, .int _, .bool _, .none, .none, .none]) => a == 3 * i && a1 == 3 * i + 1 && a2 == 3 * i + 2
  | _ => false
def xiR (s : Sh) (k : Nat) : Bool := match xj5 [.ref 0, .ref (k + 1)] (xrp s) with
  | some (_, fs) => xhG s (((rt0 s 1).eff (.lit 0)).eraseIdx k) fs && xmc (k + 1) fs[k + 1]?
  | none => false
def xpp (a : Nat × FE × FE) (x : Option FO) : Bool := match x with
  | some (.inst 0 [_, .int b, .int e, _, _, _, _, _, _, _, _]) => (match a.2.1.nf, b.nf with | some x, some y => x.same y | _, _ => false) && (match a.2.2.nf, e.nf with | some x, some y => x.same y | _, _ => false)
  | _ => false
def xnD (s : Sh) (k : Nat) : Bool := match xf7 [.ref (k + 1)] (xrp s) with
  | some (_, fs) => xhG s ((rt0 s 1).eff (.lit 0)) fs && (match ((rt0 s 1).eff (.lit 0))[k]? with | some a => xpp a fs[k + 1]? | none => false)
  | none => false
def xdy (s : Sh) : Bool := (List.range s.size).all (fun k => xiR s k && xnD s k) && (s.size == 0 || 5 < s.size || (List.range (s.size + 1)).all (fun k => xkH s k))
theorem xsU : LS0.all xdy = true := by decide +kernel
theorem xth : LS1.all xdy = true := by decide +kernel
theorem xtB : LS2.all xdy = true := by decide +kernel
theorem xtv : LS3.all xdy = true := by decide +kernel
theorem xti : LS4.all xdy = true := by decide +kernel
theorem xtk : LS5.all xdy = true := by decide +kernel
theorem xt3 : LS6.all xdy = true := by decide +kernel
theorem xt8 : LS7.all xdy = true := by decide +kernel
theorem xt9 : ∀ s ∈ LS, xdy s = true := by
  intro s hs
  unfold LS at hs
  simp only [List.mem_append] at hs
  rcases hs with ((((((h | h) | h) | h) | h) | h) | h) | h
  · exact List.all_eq_true.mp xsU s h
  · exact List.all_eq_true.mp xth s h
  · exact List.all_eq_true.mp xtB s h
  · exact List.all_eq_true.mp xtv s h
  · exact List.all_eq_true.mp xti s h
  · exact List.all_eq_true.mp xtk s h
  · exact List.all_eq_true.mp xt3 s h
  · exact List.all_eq_true.mp xt8 s h
end
section
open PySem
structure Nd where
  id : Nat
  num : PV
  b : Int
  e : Int
  fa : PV
  ra : PV
  lim : Int
  off : Int
  red : Bool
inductive T where
  | E | N (l : T) (x : Nd) (r : T)
def T.ptr : T → PV
  | .E => .none
  | .N _ x _ => .ref x.id
def Nd.obj (x : Nd) (l r p : PV) : xg2 := .inst 0 [x.num, .int x.b, .int x.e, x.fa, x.ra, .int x.lim, .int x.off, .bool x.red, l, r, p]
def Sub (σ : St) : PV → T → Prop
  | _, .E => True
  | p, .N l x r => σ.objs x.id = x.obj l.ptr r.ptr p ∧ Sub σ (.ref x.id) l ∧ Sub σ (.ref x.id) r
def T.nodes : T → List Nd
  | .E => []
  | .N l x r => l.nodes ++ x :: r.nodes
def T.ids (t : T) : List Nat := t.nodes.map (·.id)
def T.shape : T → Sh
  | .E => .E
  | .N l x r => .N l.shape x.red r.shape
def T.top : T → Option Int
  | .E => none
  | .N _ x _ => some (x.lim + x.off)
def T.UB : T → Prop
  | .E => True
  | .N l x r => x.e ≤ x.lim ∧ (∀ m, l.top = some m → m ≤ x.lim) ∧ (∀ m, r.top = some m → m ≤ x.lim) ∧ l.UB ∧ r.UB
structure It where
  id : Nat
  num : PV
  b : Int
  e : Int
def T.inord : Int → T → List It
  | _, .E => []
  | c, .N l x r => l.inord (c + x.off) ++ ⟨x.id, x.num, x.b + (c + x.off), x.e + (c + x.off)⟩ :: r.inord (c + x.off)
structure xkn (σ : St) (tr : Nat) (t : T) : Prop where
  root : ∃ cnt, σ.objs tr = .inst 1 [t.ptr, .int cnt]
  sub : Sub σ .none t
  nodup : (tr :: t.ids).Nodup
  lt : ∀ a ∈ tr :: t.ids, a < σ.next
theorem T.shape_size : ∀ t : T, t.shape.size = t.nodes.length
  | .E => rfl
  | .N l x r => by simp only [T.shape, Sh.size, T.nodes, List.length_append, List.length_cons, T.shape_size l, T.shape_size r]; omega
theorem T.inord_ids : ∀ (c : Int) (t : T), (t.inord c).map (·.id) = t.ids
  | _, .E => rfl
  | c, .N l x r => by
    show ((l.inord _ ++ _ :: r.inord _).map _) = (l.nodes ++ x :: r.nodes).map _
    rw [List.map_append, List.map_append, List.map_cons, List.map_cons, T.inord_ids _ l, T.inord_ids _ r]; rfl
theorem T.inord_length (c : Int) (t : T) : (t.inord c).length = t.nodes.length := by
  have := congrArg List.length (T.inord_ids c t)
  simpa [T.ids] using this
section
variable (ρ : List Nat) (v : Nat → Int) (o : Nat → PV)
def xeI : RT → T
  | .E => .E
  | .N l id b e lim off red r => .N (xeI l) ⟨(ρ[id]?).getD 0, o (3 * id), b.ev v, e.ev v, o (3 * id + 1), o (3 * id + 2), lim.ev v, off.ev v, red⟩ (xeI r)
def xgK (a : Nat × FE × FE) : It := ⟨(ρ[a.1]?).getD 0, o (3 * a.1), a.2.1.ev v, a.2.2.ev v⟩
end
def vOf (cnt : Int) (L : List Nd) (n : Nat) : Int := if n < 4 then cnt else match L[n / 4 - 1]? with
  | some x => (match n % 4 with | 0 => x.b | 1 => x.e | 2 => x.lim | _ => x.off)
  | none => 0
def oOf (L : List Nd) (n : Nat) : PV := match L[n / 3 - 1]? with
  | some x => (match n % 3 with | 0 => x.num | 1 => x.fa | _ => x.ra)
  | none => .none
theorem xoy {cnt : Int} {L : List Nd} {i : Nat} {x : Nd} (h : L[i]? = some x) : vOf cnt L (4 * (i + 1)) = x.b ∧ vOf cnt L (4 * (i + 1) + 1) = x.e ∧ vOf cnt L (4 * (i + 1) + 2) = x.lim ∧ vOf cnt L (4 * (i + 1) + 3) = x.off := by
  have key : ∀ j, j < 4 → (4 * (i + 1) + j) / 4 - 1 = i := fun j hj => by omega
  have k2 : ∀ j, j < 4 → (4 * (i + 1) + j) % 4 = j := fun j hj => by omega
  refine ⟨?_, ?_, ?_, ?_⟩
  · unfold vOf; rw [if_neg (by omega), show 4 * (i + 1) = 4 * (i + 1) + 0 from rfl, key 0 (by omega), k2 0 (by omega), h]; try rfl
  · unfold vOf; rw [if_neg (by omega), key 1 (by omega), k2 1 (by omega), h]; try rfl
  · unfold vOf; rw [if_neg (by omega), key 2 (by omega), k2 2 (by omega), h]; try rfl
  · unfold vOf; rw [if_neg (by omega), key 3 (by omega), k2 3 (by omega), h]; try rfl
theorem xqg {L : List Nd} {i : Nat} {x : Nd} (h : L[i]? = some x) : oOf L (3 * (i + 1)) = x.num ∧ oOf L (3 * (i + 1) + 1) = x.fa ∧ oOf L (3 * (i + 1) + 2) = x.ra := by
  have key : ∀ j, j < 3 → (3 * (i + 1) + j) / 3 - 1 = i := fun j hj => by omega
  have k2 : ∀ j, j < 3 → (3 * (i + 1) + j) % 3 = j := fun j hj => by omega
  refine ⟨?_, ?_, ?_⟩
  · unfold oOf; rw [show 3 * (i + 1) = 3 * (i + 1) + 0 from rfl, key 0 (by omega), k2 0 (by omega), h]; try rfl
  · unfold oOf; rw [key 1 (by omega), k2 1 (by omega), h]; try rfl
  · unfold oOf; rw [key 2 (by omega), k2 2 (by omega), h]; try rfl
def At (L : List Nd) (i : Nat) (t : T) : Prop := ∀ j, j < t.nodes.length → L[i + j]? = t.nodes[j]?
theorem At.left {L : List Nd} {i : Nat} {l r : T} {x : Nd} (h : At L i (.N l x r)) : At L i l := fun j hj => by
  rw [h j (by show j < (l.nodes ++ x :: r.nodes).length; rw [List.length_append]; omega)]
  show (l.nodes ++ x :: r.nodes)[j]? = _
  rw [List.getElem?_append_left hj]
theorem At.mid {L : List Nd} {i : Nat} {l r : T} {x : Nd} (h : At L i (.N l x r)) : L[i + l.nodes.length]? = some x := by
  rw [h l.nodes.length (by show _ < (l.nodes ++ x :: r.nodes).length; rw [List.length_append, List.length_cons]; omega)]
  show (l.nodes ++ x :: r.nodes)[l.nodes.length]? = _
  rw [List.getElem?_append_right (Nat.le_refl _), Nat.sub_self]; rfl
theorem At.right {L : List Nd} {i : Nat} {l r : T} {x : Nd} (h : At L i (.N l x r)) : At L (i + l.nodes.length + 1) r := fun j hj => by
  have := h (l.nodes.length + 1 + j) (by show _ < (l.nodes ++ x :: r.nodes).length; rw [List.length_append, List.length_cons]; omega)
  rw [show i + l.nodes.length + 1 + j = i + (l.nodes.length + 1 + j) by omega, this]
  show (l.nodes ++ x :: r.nodes)[l.nodes.length + 1 + j]? = _
  rw [List.getElem?_append_right (by omega), show l.nodes.length + 1 + j - l.nodes.length = j + 1 by omega, List.getElem?_cons_succ]
theorem xnh {ρ : List Nat} {v o} {tr : Nat} {L : List Nd} (hρ : ρ = tr :: L.map (·.id)) : ∀ {t : T} {i : Nat}, At L i t → FVR ρ v o (rt0 t.shape (i + 1)).ptr t.ptr
  | .E, _, _ => .none
  | .N l x r, i, h => by
    refine .ref _ _ ?_
    have hm := h.mid
    rw [hρ, T.shape_size l, show i + 1 + l.nodes.length = (i + l.nodes.length) + 1 by omega, List.getElem?_cons_succ, List.getElem?_map, hm]; rfl
theorem xln {tr : Nat} {L : List Nd} {cnt : Int} : ∀ {t : T} {i : Nat}, At L i t → xeI (tr :: L.map (·.id)) (vOf cnt L) (oOf L) (rt0 t.shape (i + 1)) = t
  | .E, _, _ => rfl
  | .N l x r, i, h => by
    have hm := h.mid
    obtain ⟨v1, v2, v3, v4⟩ := xoy (cnt := cnt) hm
    obtain ⟨o1, o2, o3⟩ := xqg hm
    have e : i + 1 + l.shape.size = (i + l.nodes.length) + 1 := by rw [T.shape_size]; omega
    have hl := xln (tr := tr) (cnt := cnt) h.left
    have hr := xln (tr := tr) (cnt := cnt) h.right
    show T.N (xeI _ _ _ (rt0 l.shape (i + 1))) ⟨_, _, _, _, _, _, _, _, _⟩ (xeI _ _ _ (rt0 r.shape (i + 1 + l.shape.size + 1))) = _
    rw [hl, e, hr]
    congr 1
    simp only [FE.ev, v1, v2, v3, v4, o1, o2, o3, List.getElem?_cons_succ, List.getElem?_map, hm, Option.map_some, Option.getD_some]
theorem xfJ : ∀ (s : Sh) (i : Nat) (p : FV), ((rt0 s i).objs p).length = s.size
  | .E, _, _ => rfl
  | .N l c r, i, p => by
    show ((rt0 l i).objs _ ++ _ :: (rt0 r _).objs _).length = _
    rw [List.length_append, List.length_cons, xfJ l, xfJ r]; show _ = l.size + 1 + r.size; omega
theorem xjh {ρ : List Nat} {tr : Nat} {L : List Nd} {cnt : Int} {σ : St} (hρ : ρ = tr :: L.map (·.id)) : ∀ {t : T} {i : Nat} {p : PV} {fp : FV}, At L i t → Sub σ p t → FVR ρ (vOf cnt L) (oOf L) fp p → ∀ (j : Nat) (y : FO), ((rt0 t.shape (i + 1)).objs fp)[j]? = some y →
    ∃ a, ρ[i + 1 + j]? = some a ∧ FOR ρ (vOf cnt L) (oOf L) y (σ.objs a)
  | .E, _, _, _, _, _, _, j, y, h => by simp [T.shape, rt0, RT.objs] at h
  | .N l x r, i, p, fp, h, hs, hp, j, y, hy => by
    obtain ⟨h1, h2, h3⟩ := hs
    have hm := h.mid
    obtain ⟨v1, v2, v3, v4⟩ := xoy (cnt := cnt) hm
    obtain ⟨o1, o2, o3⟩ := xqg hm
    have e : i + 1 + l.shape.size = (i + l.nodes.length) + 1 := by rw [T.shape_size]; omega
    have hme : ρ[(i + l.nodes.length) + 1]? = some x.id := by rw [hρ, List.getElem?_cons_succ, List.getElem?_map, hm]; rfl
    have hL : ((rt0 l.shape (i + 1)).objs (.ref (i + 1 + l.shape.size))).length = l.nodes.length := by rw [xfJ, T.shape_size]
    have hy' : ((rt0 l.shape (i + 1)).objs (.ref (i + 1 + l.shape.size)) ++ ndF (i + 1 + l.shape.size) (.var (4 * (i + 1 + l.shape.size))) (.var (4 * (i + 1 + l.shape.size) + 1)) (.var (4 * (i + 1 + l.shape.size) + 2)) (.var (4 * (i + 1 + l.shape.size) + 3)) x.red (rt0 l.shape (i + 1)).ptr (rt0 r.shape (i + 1 + l.shape.size + 1)).ptr fp :: (rt0 r.shape (i + 1 + l.shape.size + 1)).objs (.ref (i + 1 + l.shape.size)))[j]? = some y := hy
    rcases Nat.lt_or_ge j l.nodes.length with q | q
    · rw [List.getElem?_append_left (by rw [hL]; exact q)] at hy'
      exact xjh hρ h.left h2 (by rw [e]; exact .ref _ _ hme) j y hy'
    · rw [List.getElem?_append_right (by rw [hL]; exact q), hL] at hy'
      rcases Nat.eq_or_lt_of_le q with q | q
      · rw [show j - l.nodes.length = 0 by omega, List.getElem?_cons_zero] at hy'
        cases hy'
        refine ⟨x.id, by rw [show i + 1 + j = (i + l.nodes.length) + 1 by omega]; exact hme, ?_⟩
        rw [h1, e]
        refine ⟨rfl, ?_⟩
        have hl := xnh (v := vOf cnt L) (o := oOf L) hρ h.left
        have hr := xnh (v := vOf cnt L) (o := oOf L) hρ h.right
        refine .cons ?_ (.cons (.int _ _ (by rw [← v1]; rfl)) (.cons (.int _ _ (by rw [← v2]; rfl)) (.cons ?_ (.cons ?_ (.cons (.int _ _ (by rw [← v3]; rfl)) (.cons (.int _ _ (by rw [← v4]; rfl)) (.cons (.bool _) (.cons hl (.cons ?_ (.cons hp .nil))))))))))
        · rw [← o1]; exact .opq _
        · rw [← o2]; exact .opq _
        · rw [← o3]; exact .opq _
        · have := hr
          rwa [show i + l.nodes.length + 1 + 1 = i + l.nodes.length + 1 + 1 from rfl] at this
      · rw [show j - l.nodes.length = (j - l.nodes.length - 1) + 1 by omega, List.getElem?_cons_succ] at hy'
        have hr := xjh (cnt := cnt) (σ := σ) (p := .ref x.id) (fp := .ref (i + 1 + l.shape.size)) hρ h.right h3 (by rw [e]; exact .ref _ _ hme) (j - l.nodes.length - 1) y (by rw [← e]; exact hy')
        rw [show i + l.nodes.length + 1 + 1 + (j - l.nodes.length - 1) = i + 1 + j by omega] at hr
        exact hr
theorem xjr {σ : St} {tr : Nat} {t : T} (h : xkn σ tr t) : ∃ cnt, xia (tr :: t.ids) (vOf cnt t.nodes) (oOf t.nodes) (xrp t.shape) σ ∧ xeI (tr :: t.ids) (vOf cnt t.nodes) (oOf t.nodes) (rt0 t.shape 1) = t := by
  obtain ⟨cnt, hc⟩ := h.root
  have hat : At t.nodes 0 t := fun j _ => by rw [Nat.zero_add]
  refine ⟨cnt, ⟨?_, h.nodup, h.lt, fun i a x h1 h2 => ?_⟩, xln hat⟩
  · show (tr :: t.ids).length = ((rt0 t.shape 1).objs .none).length + 1
    rw [xfJ, T.shape_size]; simp [T.ids]
  · cases i with
    | zero =>
      cases h1; cases h2
      rw [hc]
      exact ⟨rfl, .cons (xnh rfl hat) (.cons (.int _ _ rfl) .nil)⟩
    | succ i =>
      obtain ⟨b, h3, h4⟩ := xjh (ρ := tr :: t.ids) (cnt := cnt) (p := .none) (fp := .none) rfl hat h.sub .none i x h2
      rw [show 0 + 1 + i = i + 1 by omega] at h3
      rw [h3] at h1
      cases h1; exact h4
theorem xqB {ρ : List Nat} {v o p q x y} (h : FV.sameP p q = true) (hp : FVR ρ v o p x) (hq : FVR ρ v o q y) : x = y := by
  unfold FV.sameP at h
  split at h
  · cases hp; cases hq; rfl
  · rename_i i j
    have : i = j := beq_iff_eq.mp h
    subst this
    cases hp with
    | ref _ a ha => cases hq with
      | ref _ b hb => rw [ha] at hb; cases hb; rfl
  · cases h
theorem xnI {ρ : List Nat} {v o fs σ} (R : xia ρ v o fs σ) : ∀ {n : Nat} {fp fx : FV} {rt : RT} {p x : PV}, xju fs n fp fx = some rt → FVR ρ v o fp p → FVR ρ v o fx x → x = (xeI ρ v o rt).ptr ∧ Sub σ p (xeI ρ v o rt) ∧ ∀ i ∈ rt.ids, i < ρ.length := by
  intro n
  induction n with
  | zero =>
    intro fp fx rt p x h hp hx
    cases fx with
    | none => cases h; cases hx; exact ⟨rfl, trivial, fun i h => by cases h⟩
    | _ => cases h
  | succ n ih =>
    intro fp fx rt p x h hp hx
    cases fx with
    | none => cases h; cases hx; exact ⟨rfl, trivial, fun i h => by cases h⟩
    | ref i =>
      unfold xju at h
      split at h
      case h_2 => cases h
      rename_i a b e a1 a2 lim off red l r q ho
      split at h
      case isFalse => cases h
      rename_i hc
      simp only [Bool.and_eq_true, beq_iff_eq] at hc
      obtain ⟨⟨⟨rfl, rfl⟩, rfl⟩, hq⟩ := hc
      split at h
      case h_2 => cases h
      rename_i tl trr hl hr
      cases h
      cases hx with
      | ref _ ad had =>
      have O := R.obj i ad _ had ho
      cases hob : σ.objs ad with
      | inst c ws =>
        rw [hob] at O
        obtain ⟨rfl, hv⟩ := O
        obtain ⟨w0, w1, w2, w3, w4, w5, w6, w7, w8, w9, w10, rfl⟩ : ∃ w0 w1 w2 w3 w4 w5 w6 w7 w8 w9 w10, ws = [w0, w1, w2, w3, w4, w5, w6, w7, w8, w9, w10] := by
          have := hv.1
          match ws, this with
          | [w0, w1, w2, w3, w4, w5, w6, w7, w8, w9, w10], _ => exact ⟨_, _, _, _, _, _, _, _, _, _, _, rfl⟩
        have f0 := hv.2 0 _ _ rfl rfl
        have f1 := hv.2 1 _ _ rfl rfl
        have f2 := hv.2 2 _ _ rfl rfl
        have f3 := hv.2 3 _ _ rfl rfl
        have f4 := hv.2 4 _ _ rfl rfl
        have f5 := hv.2 5 _ _ rfl rfl
        have f6 := hv.2 6 _ _ rfl rfl
        have f7 := hv.2 7 _ _ rfl rfl
        have f8 := hv.2 8 _ _ rfl rfl
        have f9 := hv.2 9 _ _ rfl rfl
        have f10 := hv.2 10 _ _ rfl rfl
        have hpp := xqB hq hp f10
        obtain ⟨l1, l2, l3⟩ := ih hl (.ref i ad had) f8
        obtain ⟨r1, r2, r3⟩ := ih hr (.ref i ad had) f9
        have hid : (ρ[i]?).getD 0 = ad := by rw [had]; rfl
        refine ⟨by show _ = PV.ref _; rw [hid], ⟨?_, ?_, ?_⟩, fun j hj => ?_⟩
        · rw [hid, hob]
          cases f0; cases f1 with | int _ k1 h1 => cases f2 with | int _ k2 h2 => cases f3; cases f4; cases f5 with | int _ k5 h5 => cases f6 with | int _ k6 h6 => cases f7; rw [h1, h2, h5, h6, l1, r1, hpp]; rfl
        · rw [hid]; exact l2
        · rw [hid]; exact r2
        · rcases List.mem_append.mp hj with q | q
          · exact l3 j q
          · rcases List.mem_cons.mp q with q | q
            · rw [q]; exact (List.getElem?_eq_some_iff.mp had).1
            · exact r3 j q
      | _ => rw [hob] at O; exact O.elim
    | _ => cases h
theorem xpR (v : Nat → Int) (k : Nat) : ∀ l : List Nat, (xsP k l).foldr (fun k s => v k + s) 0 = v k + l.foldr (fun k s => v k + s) 0
  | [] => rfl
  | j :: l => by
    unfold xsP
    split
    · rfl
    · show v j + (xsP k l).foldr _ 0 = v k + (v j + l.foldr _ 0)
      rw [xpR v k l]; omega
theorem xjA (v : Nat → Int) : ∀ x y : List Nat, (xmn x y).foldr (fun k s => v k + s) 0 = x.foldr (fun k s => v k + s) 0 + y.foldr (fun k s => v k + s) 0
  | [], y => by show _ = 0 + _; rw [Int.zero_add]; rfl
  | k :: x, y => by
    show (xsP k (xmn x y)).foldr _ 0 = v k + x.foldr _ 0 + _
    rw [xpR, xjA v x y]; omega
theorem LF.val_plus (v : Nat → Int) (a b : LF) : (a.plus b).val v = a.val v + b.val v := by
  unfold LF.plus LF.val
  dsimp only
  rw [xjA]; omega
theorem FE.nf_ok (v : Nat → Int) : ∀ {e : FE} {f : LF}, e.nf = some f → e.ev v = f.val v
  | .var k, f, h => by cases h; show v k = v k + 0 + 0; omega
  | .lit k, f, h => by cases h; show k = 0 + k; omega
  | .add a b, f, h => by
    unfold FE.nf at h
    split at h
    · rename_i x y hx hy
      cases h
      rw [LF.val_plus, ← FE.nf_ok v hx, ← FE.nf_ok v hy]; rfl
    · cases h
  | .mx _ _, _, h => by cases h
theorem FE.nfm_ok (v : Nat → Int) : ∀ e : FE, (∀ f ∈ e.nfm, f.val v ≤ e.ev v) ∧ ∃ f ∈ e.nfm, f.val v = e.ev v
  | .var k => ⟨fun f h => by rw [List.mem_singleton.mp h]; show v k + 0 + 0 ≤ v k; omega, _, List.mem_singleton.mpr rfl, by show v k + 0 + 0 = v k; omega⟩
  | .lit k => ⟨fun f h => by rw [List.mem_singleton.mp h]; show 0 + k ≤ k; omega, _, List.mem_singleton.mpr rfl, by show 0 + k = k; omega⟩
  | .add a b => by
    obtain ⟨a1, fa, a2, a3⟩ := FE.nfm_ok v a
    obtain ⟨b1, fb, b2, b3⟩ := FE.nfm_ok v b
    refine ⟨fun f h => ?_, fa.plus fb, ?_, ?_⟩
    · obtain ⟨x, hx, h⟩ := List.mem_flatMap.mp h
      obtain ⟨y, hy, rfl⟩ := List.mem_map.mp h
      rw [LF.val_plus]
      have := a1 x hx
      have := b1 y hy
      show _ ≤ a.ev v + b.ev v; omega
    · exact List.mem_flatMap.mpr ⟨fa, a2, List.mem_map.mpr ⟨fb, b2, rfl⟩⟩
    · rw [LF.val_plus, a3, b3]; rfl
  | .mx a b => by
    obtain ⟨a1, fa, a2, a3⟩ := FE.nfm_ok v a
    obtain ⟨b1, fb, b2, b3⟩ := FE.nfm_ok v b
    have hm : (FE.mx a b).ev v = if b.ev v > a.ev v then b.ev v else a.ev v := rfl
    refine ⟨fun f h => ?_, ?_⟩
    · rw [hm]
      rcases List.mem_append.mp h with h | h
      · have := a1 f h; split <;> omega
      · have := b1 f h; split <;> omega
    · rw [hm]
      split
      · exact ⟨fb, List.mem_append_right _ b2, b3⟩
      · exact ⟨fa, List.mem_append_left _ a2, a3⟩
theorem LF.same_ok {a b : LF} (h : a.same b = true) : a = b := by
  unfold LF.same at h
  rw [Bool.and_eq_true] at h
  exact Prod.ext (beq_iff_eq.mp h.1) (beq_iff_eq.mp h.2)
theorem xmt (v : Nat → Int) (k : Nat) : ∀ l : List Nat, k ∈ l → l.foldr (fun k s => v k + s) 0 = v k + (l.erase k).foldr (fun k s => v k + s) 0
  | j :: l, h => by
    by_cases q : j = k
    · subst q; rw [List.erase_cons_head]; rfl
    · rw [List.erase_cons_tail (by simpa using q)]
      show v j + l.foldr _ 0 = v k + (v j + (l.erase k).foldr _ 0)
      have hm : k ∈ l := by
        rcases List.mem_cons.mp h with h | h
        · exact absurd h.symm q
        · exact h
      rw [xmt v k l hm]; omega
theorem LF.dom_ok {v : Nat → Int} {F : List (List Nat × Nat)} (hF : ∀ p ∈ F, p.1.foldr (fun k s => v k + s) 0 ≤ v p.2) : ∀ {n : Nat} {f g : LF}, f.dom F n g = true → f.val v ≤ g.val v := by
  intro n
  induction n with
  | zero => intro f g h; rw [LF.same_ok h]; exact Int.le_refl _
  | succ n ih =>
    intro f g h
    unfold LF.dom at h
    rw [Bool.or_eq_true] at h
    rcases h with h | h
    · rw [LF.same_ok h]; exact Int.le_refl _
    · obtain ⟨p, hp, h⟩ := List.any_eq_true.mp h
      rw [Bool.and_eq_true] at h
      have h1 := ih h.2
      have hm : p.2 ∈ g.1 := List.contains_iff_mem.mp h.1
      have h2 := hF p hp
      have h3 := xmt v p.2 g.1 hm
      unfold LF.val at h1 ⊢
      dsimp only at h1
      rw [xjA] at h1
      omega
theorem FE.le_ok {v : Nat → Int} {F : List (List Nat × Nat)} (hF : ∀ p ∈ F, p.1.foldr (fun k s => v k + s) 0 ≤ v p.2) {a b : FE} (h : a.le F b = true) : a.ev v ≤ b.ev v := by
  obtain ⟨_, f, hf, e⟩ := FE.nfm_ok v a
  obtain ⟨b1, _⟩ := FE.nfm_ok v b
  obtain ⟨g, hg, hd⟩ := List.any_eq_true.mp (List.all_eq_true.mp h f hf)
  have := LF.dom_ok hF hd
  have := b1 g hg
  omega
theorem xs7 {ρ : List Nat} {v : Nat → Int} {o : Nat → PV} {F : List (List Nat × Nat)} (hF : ∀ p ∈ F, p.1.foldr (fun k s => v k + s) 0 ≤ v p.2) : ∀ {rt : RT}, rt.ubOk F = true → (xeI ρ v o rt).UB
  | .E, _ => trivial
  | .N l id b e lim off red r, h => by
    have topOk : ∀ (t : RT) (m : Int), (match t.top with | some m => m.le F lim | none => true) = true → (xeI ρ v o t).top = some m → m ≤ lim.ev v := by
      intro t m h1 h2
      cases t with
      | E => cases h2
      | N l' id' b' e' lim' off' red' r' =>
        cases h2
        exact FE.le_ok hF (a := .add lim' off') h1
    unfold RT.ubOk at h
    simp only [Bool.and_eq_true] at h
    obtain ⟨⟨⟨⟨h1, h2⟩, h3⟩, h4⟩, h5⟩ := h
    exact ⟨FE.le_ok hF h1, fun m hm => topOk l m h2 hm, fun m hm => topOk r m h3 hm, xs7 hF h4, xs7 hF h5⟩
theorem xlE {L : List Nd} {cnt : Int} : ∀ {t : T} {i : Nat}, At L i t → t.UB → ∀ p ∈ xgL t.shape (i + 1), p.1.foldr (fun k s => vOf cnt L k + s) 0 ≤ vOf cnt L p.2
  | .E, _, _, _, p, hp => by cases hp
  | .N l x r, i, h, hu, p, hp => by
    obtain ⟨u1, u2, u3, u4, u5⟩ := hu
    have hm := h.mid
    obtain ⟨v1, v2, v3, v4⟩ := xoy (cnt := cnt) hm
    have e : i + 1 + l.shape.size = (i + l.nodes.length) + 1 := by rw [T.shape_size]; omega
    have topOk : ∀ (t : T) (j : Nat), At L j t → (∀ m, t.top = some m → m ≤ x.lim) → ∀ m ∈ xtU t.shape (j + 1), m.foldr (fun k s => vOf cnt L k + s) 0 ≤ x.lim := by
      intro t j hj ht m hm'
      cases t with
      | E => cases hm'
      | N l' x' r' =>
        have hm2 := hj.mid
        obtain ⟨w1, w2, w3, w4⟩ := xoy (cnt := cnt) hm2
        have e' : j + 1 + l'.shape.size = (j + l'.nodes.length) + 1 := by rw [T.shape_size]; omega
        have hm3 : m = [4 * (j + 1 + l'.shape.size) + 2, 4 * (j + 1 + l'.shape.size) + 3] := List.mem_singleton.mp hm'
        rw [hm3, e']
        show vOf cnt L _ + (vOf cnt L _ + 0) ≤ _
        rw [w3, w4]
        have := ht _ rfl
        omega
    unfold T.shape xgL at hp
    rw [e] at hp
    rcases List.mem_append.mp hp with hp | hp
    · rcases List.mem_append.mp hp with hp | hp
      · rcases List.mem_cons.mp hp with rfl | hp
        · show vOf cnt L _ + 0 ≤ vOf cnt L _
          rw [v2, v3]; omega
        · obtain ⟨m, hm', rfl⟩ := List.mem_map.mp hp
          show _ ≤ vOf cnt L _
          rw [v3]
          rcases List.mem_append.mp hm' with hm' | hm'
          · exact topOk l i h.left u2 m hm'
          · exact topOk r _ h.right u3 m hm'
      · exact xlE h.left u4 p hp
    · exact xlE h.right u5 p hp
theorem xhs {ρ : List Nat} {v : Nat → Int} {o : Nat → PV} : ∀ (rt : RT) (acc : FE), (xeI ρ v o rt).inord (acc.ev v) = (rt.eff acc).map (xgK ρ v o)
  | .E, _ => rfl
  | .N l id b e lim off red r, acc => by
    show (xeI ρ v o l).inord _ ++ _ :: (xeI ρ v o r).inord _ = _
    rw [show acc.ev v + off.ev v = (FE.add acc off).ev v from rfl, xhs l, xhs r]
    show _ = List.map _ (_ ++ _ :: _)
    rw [List.map_append, List.map_cons]; rfl
theorem xqR {ρ : List Nat} {v : Nat → Int} {o : Nat → PV} {a b : Nat × FE × FE} (h : xs4 a b = true) : xgK ρ v o a = xgK ρ v o b := by
  unfold xs4 at h
  simp only [Bool.and_eq_true] at h
  obtain ⟨⟨h1, h2⟩, h3⟩ := h
  have g : ∀ (x y : FE), (match x.nf, y.nf with | some x, some y => x.same y | _, _ => false) = true → x.ev v = y.ev v := by
    intro x y h
    split at h
    · rename_i f g hf hg
      rw [FE.nf_ok v hf, FE.nf_ok v hg, LF.same_ok h]
    · cases h
  have h1 := beq_iff_eq.mp h1
  unfold xgK
  rw [h1, g _ _ h2, g _ _ h3]
theorem xmx {ρ : List Nat} {v : Nat → Int} {o : Nat → PV} : ∀ {a b : List (Nat × FE × FE)}, xoG a b = true → a.map (xgK ρ v o) = b.map (xgK ρ v o)
  | [], [], _ => rfl
  | x :: a, y :: b, h => by
    unfold xoG at h
    rw [Bool.and_eq_true] at h
    rw [List.map_cons, List.map_cons, xqR h.1, xmx h.2]
  | [], _ :: _, h => by cases h
  | _ :: _, [], h => by cases h
end
section
open PySem
structure Far (σ : St) (ids : List Nat) (σ' : St) : Prop where
  next : σ.next ≤ σ'.next
  old : ∀ a, a < σ.next → a ∉ ids → σ'.objs a = σ.objs a
theorem Far.refl {σ : St} {ids : List Nat} : Far σ ids σ := ⟨Nat.le_refl _, fun _ _ _ => rfl⟩
theorem Far.trans {σ σ' σ'' : St} {ids ids' : List Nat} (h : Far σ ids σ') (k : Far σ' ids' σ'') (hs : ∀ a, a < σ.next → a ∈ ids' → a ∈ ids) : Far σ ids σ'' :=
  ⟨Nat.le_trans h.next k.next, fun a h1 h2 => (k.old a (Nat.lt_of_lt_of_le h1 h.next) fun q => h2 (hs a h1 q)).trans (h.old a h1 h2)⟩
theorem xkV.far {ρ ρ' : List Nat} {σ σ' : St} (k : xkV ρ σ ρ' σ') : Far σ ρ σ' := ⟨k.next, k.old⟩
theorem xod : ∀ (s : Sh) (b : Nat), (rt0 s b).ids = List.range' b s.size
  | .E, b => rfl
  | .N l c r, b => by
    show (rt0 l b).ids ++ (b + l.size) :: (rt0 r _).ids = List.range' b (l.size + 1 + r.size)
    rw [xod l, xod r, ← List.range'_append_1 (s := b) (m := l.size + 1), ← List.range'_append_1 (s := b) (m := l.size) (n := 1), List.append_assoc]
    rfl
theorem xnc : ∀ (t : RT) (acc : FE), (t.eff acc).map (·.1) = t.ids
  | .E, _ => rfl
  | .N l id b e lim off red r, acc => by
    show (l.eff _ ++ _ :: r.eff _).map _ = l.ids ++ id :: r.ids
    rw [List.map_append, List.map_cons, xnc l, xnc r]
theorem xhh {α β : Type} (f : α → β) : ∀ (l : List α) (k : Nat), (l.eraseIdx k).map f = (l.map f).eraseIdx k
  | [], _ => rfl
  | _ :: _, 0 => rfl
  | a :: l, k + 1 => by show f a :: (l.eraseIdx k).map f = f a :: (l.map f).eraseIdx k; rw [xhh f l k]
theorem xnf {σ σ' : St} {tr : Nat} {t : T} {cnt : Int} {fs : FS} {ρ' : List Nat} {old : List (Nat × FE × FE)} (h : xkn σ tr t) (hub : t.UB) (R : xia ρ' (vOf cnt t.nodes) (oOf t.nodes) fs σ') (K : xkV (tr :: t.ids) σ ρ' σ')
    (hsub : old.Sublist ((rt0 t.shape 1).eff (.lit 0))) (hg : xhG t.shape old fs = true) (hconc : xeI (tr :: t.ids) (vOf cnt t.nodes) (oOf t.nodes) (rt0 t.shape 1) = t) :
    ∃ t', xkn σ' tr t' ∧ t'.shape ∈ LS ∧ t'.inord 0 = old.map (xgK (tr :: t.ids) (vOf cnt t.nodes) (oOf t.nodes)) ∧ t'.UB := by
  unfold xhG at hg
  split at hg
  case h_2 => cases hg
  rename_i rt hrt
  simp only [Bool.and_eq_true] at hg
  obtain ⟨⟨g1, g2⟩, g3⟩ := hg
  unfold xrC at hrt
  split at hrt
  case h_2 => cases hrt
  rename_i x hx
  unfold xrH at hx
  split at hx
  case h_2 => cases hx
  rename_i x' ec rest
  cases hx
  have h0 : ρ'[0]? = some tr := K.pre 0 tr rfl
  have O := R.obj 0 tr _ h0 rfl
  cases hob : σ'.objs tr with
  | inst c ws =>
    rw [hob] at O
    obtain ⟨rfl, hv⟩ := O
    obtain ⟨w0, w1, rfl⟩ : ∃ w0 w1, ws = [w0, w1] := by
      have := hv.1
      match ws, this with
      | [w0, w1], _ => exact ⟨_, _, rfl⟩
    have f0 := hv.2 0 _ _ rfl rfl
    have f1 := hv.2 1 _ _ rfl rfl
    obtain ⟨e1, e2, e3⟩ := xnI R hrt .none f0
    have hin : ∀ a ∈ old, ∃ y, (tr :: t.ids)[a.1]? = some y := by
      intro a ha
      have ha2 : a.1 ∈ (rt0 t.shape 1).ids := by rw [← xnc]; exact List.mem_map_of_mem (hsub.subset ha)
      rw [xod, List.mem_range'_1, T.shape_size] at ha2
      have : a.1 < (tr :: t.ids).length := by simp [T.ids]; omega
      exact ⟨_, List.getElem?_eq_getElem this⟩
    have hcI : old.map (xgK ρ' (vOf cnt t.nodes) (oOf t.nodes)) = old.map (xgK (tr :: t.ids) (vOf cnt t.nodes) (oOf t.nodes)) := by
      apply List.map_congr_left
      intro a ha
      obtain ⟨y, hy⟩ := hin a ha
      unfold xgK
      rw [hy, K.pre _ _ hy]
    have hord : (xeI ρ' (vOf cnt t.nodes) (oOf t.nodes) rt).inord 0 = old.map (xgK (tr :: t.ids) (vOf cnt t.nodes) (oOf t.nodes)) := by
      have := xhs (ρ := ρ') (v := vOf cnt t.nodes) (o := oOf t.nodes) rt (.lit 0)
      rw [show (FE.lit 0).ev (vOf cnt t.nodes) = 0 from rfl] at this
      rw [this, xmx g1, hcI]
    have hidsub : (xeI ρ' (vOf cnt t.nodes) (oOf t.nodes) rt).ids.Sublist t.ids := by
      have hA : (xeI ρ' (vOf cnt t.nodes) (oOf t.nodes) rt).ids = (old.map (xgK (tr :: t.ids) (vOf cnt t.nodes) (oOf t.nodes))).map (·.id) := by rw [← T.inord_ids 0, hord]
      have this := xhs (ρ := tr :: t.ids) (v := vOf cnt t.nodes) (o := oOf t.nodes) (rt0 t.shape 1) (.lit 0)
      rw [hconc, show (FE.lit 0).ev (vOf cnt t.nodes) = 0 from rfl] at this
      have hB : t.ids = (((rt0 t.shape 1).eff (.lit 0)).map (xgK (tr :: t.ids) (vOf cnt t.nodes) (oOf t.nodes))).map (·.id) := (T.inord_ids 0 t).symm.trans (congrArg (List.map (·.id)) this)
      have hC := (List.Sublist.map (xgK (tr :: t.ids) (vOf cnt t.nodes) (oOf t.nodes)) hsub).map (·.id)
      rw [← hB, ← hA] at hC
      exact hC
    have hshape : ∀ r : RT, (xeI ρ' (vOf cnt t.nodes) (oOf t.nodes) r).shape = r.shape := by
      intro r
      induction r with
      | E => rfl
      | N l id b e lim off red r ih1 ih2 =>
        show Sh.N (xeI _ _ _ l).shape red (xeI _ _ _ r).shape = Sh.N l.shape red r.shape
        rw [ih1, ih2]
    refine ⟨xeI ρ' (vOf cnt t.nodes) (oOf t.nodes) rt, ⟨?_, e2, ?_, ?_⟩, ?_, hord, xs7 (fun p hp => ?_) g2⟩
    · cases f1 with
      | int _ k hk => exact ⟨k, by rw [hob, e1]⟩
    · exact h.nodup.sublist (List.Sublist.cons_cons _ hidsub)
    · intro a ha
      refine Nat.lt_of_lt_of_le (h.lt a ?_) K.next
      rcases List.mem_cons.mp ha with q | q
      · rw [q]; exact List.mem_cons_self ..
      · exact List.mem_cons_of_mem _ (hidsub.subset q)
    · rw [hshape]; exact List.contains_iff_mem.mp g3
    · exact xlE (i := 0) (fun j _ => by rw [Nat.zero_add]) hub p hp
  | _ => rw [hob] at O; exact O.elim
theorem xhE {t : T} {cnt : Int} {tr : Nat} (hconc : xeI (tr :: t.ids) (vOf cnt t.nodes) (oOf t.nodes) (rt0 t.shape 1) = t) : ((rt0 t.shape 1).eff (.lit 0)).map (xgK (tr :: t.ids) (vOf cnt t.nodes) (oOf t.nodes)) = t.inord 0 := by
  have := xhs (ρ := tr :: t.ids) (v := vOf cnt t.nodes) (o := oOf t.nodes) (rt0 t.shape 1) (.lit 0)
  rw [hconc, show (FE.lit 0).ev (vOf cnt t.nodes) = 0 from rfl] at this
  exact this.symm
theorem xoc {s : Sh} (h : s ∈ LS) : s.size ≤ 6 := by
  have : LS.all (fun s => decide (s.size ≤ 6)) = true := by decide +kernel
  have := List.all_eq_true.mp this s h
  simpa using this
theorem xkD {s : Sh} (h : s ∈ LS) {k : Nat} (hk : k < s.size) : xiR s k = true ∧ xnD s k = true := by
  have := xt9 s h
  unfold xdy at this
  rw [Bool.and_eq_true] at this
  have := List.all_eq_true.mp this.1 k (List.mem_range.mpr hk)
  rwa [Bool.and_eq_true] at this
theorem xpy {s : Sh} (h : s ∈ LS) {k : Nat} (h1 : 1 ≤ s.size) (h5 : s.size ≤ 5) (hk : k ≤ s.size) : xkH s k = true := by
  have := xt9 s h
  unfold xdy at this
  rw [Bool.and_eq_true] at this
  have := this.2
  rw [Bool.or_eq_true, Bool.or_eq_true] at this
  rcases this with (q | q) | q
  · have : s.size = 0 := beq_iff_eq.mp q
    omega
  · have : 5 < s.size := by simpa using q
    omega
  · exact List.all_eq_true.mp q k (List.mem_range.mpr (by omega))
theorem xtw {ρ : List Nat} {v : Nat → Int} {o : Nat → PV} {i j a b : Nat} (h1 : ρ[i]? = some a) (h2 : ρ[j]? = some b) : xgz ρ v o [.ref i, .ref j] [.ref a, .ref b] := .cons (.ref _ _ h1) (.cons (.ref _ _ h2) .nil)
theorem xng {σ : St} {tr : Nat} {t : T} {s : Sh} {k id : Nat} (h : xkn σ tr t) (hub : t.UB) (hs : s ∈ LS) (h1 : 1 ≤ s.size) (h5 : s.size ≤ 5) (hk : k ≤ s.size) (hsh : t.shape = xiB s k) (hid : t.ids[k]? = some id) :
    ∃ p σ' t', xbU [.ref tr, .ref id] σ = some (p, σ') ∧ xkn σ' tr t' ∧ t'.shape ∈ LS ∧ t'.inord 0 = t.inord 0 ∧ t'.UB ∧ Far σ (tr :: t.ids) σ' := by
  obtain ⟨cnt, R, hconc⟩ := xjr h
  have hc := xpy hs h1 h5 hk
  unfold xkH at hc
  rw [← hsh] at hc
  split at hc
  case h_2 => cases hc
  rename_i x fs hrun
  obtain ⟨ρ', p, σ', e, R', K, _⟩ := xhy _ _ _ _ _ _ _ _ _ (xtw (i := 0) (j := k + 1) (a := tr) (b := id) rfl hid) R hrun
  obtain ⟨t', a1, a2, a3, a4⟩ := xnf h hub R' K (List.Sublist.refl _) hc hconc
  exact ⟨p, σ', t', e, a1, a2, by rw [a3, xhE hconc], a4, K.far⟩
theorem xma {t : T} {k id : Nat} (hid : t.ids[k]? = some id) : ∃ x, t.nodes[k]? = some x ∧ x.id = id := by
  unfold T.ids at hid
  rw [List.getElem?_map] at hid
  obtain ⟨x, h1, h2⟩ := Option.map_eq_some_iff.mp hid
  exact ⟨x, h1, h2⟩
theorem xpU {σ : St} {tr : Nat} {t : T} {k id : Nat} (h : xkn σ tr t) (hub : t.UB) (hs : t.shape ∈ LS) (hid : t.ids[k]? = some id) :
    ∃ p σ' t', xdf [.ref tr, .ref id] σ = some (p, σ') ∧ xkn σ' tr t' ∧ t'.shape ∈ LS ∧ t'.inord 0 = (t.inord 0).eraseIdx k ∧ t'.UB ∧ Far σ (tr :: t.ids) σ' ∧
      ∃ x b e l o r, t.nodes[k]? = some x ∧ σ'.objs id = .inst 0 [x.num, .int b, .int e, x.fa, x.ra, .int l, .int o, .bool r, .none, .none, .none] := by
  obtain ⟨cnt, R, hconc⟩ := xjr h
  obtain ⟨x, hx, hxid⟩ := xma hid
  have hk : k < t.shape.size := by rw [T.shape_size]; exact (List.getElem?_eq_some_iff.mp hx).1
  have hc := (xkD hs hk).1
  unfold xiR at hc
  split at hc
  case h_2 => cases hc
  rename_i y fs hrun
  rw [Bool.and_eq_true] at hc
  obtain ⟨ρ', p, σ', e, R', K, _⟩ := xm6 _ _ _ _ _ _ _ _ _ (xtw (i := 0) (j := k + 1) (a := tr) (b := id) rfl hid) R hrun
  obtain ⟨t', a1, a2, a3, a4⟩ := xnf h hub R' K (List.eraseIdx_sublist _ _) hc.1 hconc
  refine ⟨p, σ', t', e, a1, a2, ?_, a4, K.far, ?_⟩
  · rw [a3, ← xhE hconc]
    exact xhh _ _ _
  · have hl := hc.2
    unfold xmc at hl
    split at hl
    case h_2 => cases hl
    rename_i a fb fe a1' a2' fl fo fr ho
    simp only [Bool.and_eq_true, beq_iff_eq] at hl
    obtain ⟨⟨rfl, rfl⟩, rfl⟩ := hl
    have hid' : ρ'[k + 1]? = some id := K.pre _ _ hid
    have O := R'.obj (k + 1) id _ hid' ho
    obtain ⟨o1, o2, o3⟩ := xqg hx
    cases hob : σ'.objs id with
    | inst c ws =>
      rw [hob] at O
      obtain ⟨rfl, hv⟩ := O
      obtain ⟨w0, w1, w2, w3, w4, w5, w6, w7, w8, w9, w10, rfl⟩ : ∃ w0 w1 w2 w3 w4 w5 w6 w7 w8 w9 w10, ws = [w0, w1, w2, w3, w4, w5, w6, w7, w8, w9, w10] := by
        have := hv.1
        match ws, this with
        | [w0, w1, w2, w3, w4, w5, w6, w7, w8, w9, w10], _ => exact ⟨_, _, _, _, _, _, _, _, _, _, _, rfl⟩
      have f0 := hv.2 0 _ _ rfl rfl
      have f1 := hv.2 1 _ _ rfl rfl
      have f2 := hv.2 2 _ _ rfl rfl
      have f3 := hv.2 3 _ _ rfl rfl
      have f4 := hv.2 4 _ _ rfl rfl
      have f5 := hv.2 5 _ _ rfl rfl
      have f6 := hv.2 6 _ _ rfl rfl
      have f7 := hv.2 7 _ _ rfl rfl
      have f8 := hv.2 8 _ _ rfl rfl
      have f9 := hv.2 9 _ _ rfl rfl
      have f10 := hv.2 10 _ _ rfl rfl
      cases f0; cases f1 with | int _ k1 h1 => cases f2 with | int _ k2 h2 => cases f3; cases f4; cases f5 with | int _ k5 h5 => cases f6 with | int _ k6 h6 => cases f7; cases f8; cases f9; cases f10; exact ⟨x, k1, k2, k5, k6, fr, hx, by rw [o1, o2, o3]⟩
    | _ => rw [hob] at O; exact O.elim
theorem xqb {σ : St} {tr : Nat} {t : T} {k id : Nat} (h : xkn σ tr t) (hub : t.UB) (hs : t.shape ∈ LS) (hid : t.ids[k]? = some id) :
    ∃ p σ' t', xcl [.ref id] σ = some (p, σ') ∧ xkn σ' tr t' ∧ t'.shape ∈ LS ∧ t'.inord 0 = t.inord 0 ∧ t'.UB ∧ Far σ (tr :: t.ids) σ' ∧
      ∃ it w0 w3 w4 w5 w6 w7 w8 w9 w10, (t.inord 0)[k]? = some it ∧ σ'.objs id = .inst 0 [w0, .int it.b, .int it.e, w3, w4, w5, w6, w7, w8, w9, w10] := by
  obtain ⟨cnt, R, hconc⟩ := xjr h
  obtain ⟨x, hx, hxid⟩ := xma hid
  have hk : k < t.shape.size := by rw [T.shape_size]; exact (List.getElem?_eq_some_iff.mp hx).1
  have hc := (xkD hs hk).2
  unfold xnD at hc
  split at hc
  case h_2 => cases hc
  rename_i y fs hrun
  rw [Bool.and_eq_true] at hc
  obtain ⟨ρ', p, σ', e, R', K, _⟩ := xge _ _ _ _ _ _ _ _ _ (.cons (.ref (k + 1) id hid) .nil) R hrun
  obtain ⟨t', a1, a2, a3, a4⟩ := xnf h hub R' K (List.Sublist.refl _) hc.1 hconc
  refine ⟨p, σ', t', e, a1, a2, by rw [a3, xhE hconc], a4, K.far, ?_⟩
  have hl := hc.2
  split at hl
  case h_2 => cases hl
  rename_i a ha
  unfold xpp at hl
  split at hl
  case h_2 => cases hl
  rename_i q0 fb fe q3 q4 q5 q6 q7 q8 q9 q10 ho
  rw [Bool.and_eq_true] at hl
  have hid' : ρ'[k + 1]? = some id := K.pre _ _ hid
  have O := R'.obj (k + 1) id _ hid' ho
  cases hob : σ'.objs id with
  | inst c ws =>
    rw [hob] at O
    obtain ⟨rfl, hv⟩ := O
    obtain ⟨w0, w1, w2, w3, w4, w5, w6, w7, w8, w9, w10, rfl⟩ : ∃ w0 w1 w2 w3 w4 w5 w6 w7 w8 w9 w10, ws = [w0, w1, w2, w3, w4, w5, w6, w7, w8, w9, w10] := by
      have := hv.1
      match ws, this with
      | [w0, w1, w2, w3, w4, w5, w6, w7, w8, w9, w10], _ => exact ⟨_, _, _, _, _, _, _, _, _, _, _, rfl⟩
    have f1 := hv.2 1 _ _ rfl rfl
    have f2 := hv.2 2 _ _ rfl rfl
    have g : ∀ (x y : FE), (match x.nf, y.nf with | some x, some y => x.same y | _, _ => false) = true → x.ev (vOf cnt t.nodes) = y.ev (vOf cnt t.nodes) := by
      intro x y h
      split at h
      · rename_i f g hf hg
        rw [FE.nf_ok _ hf, FE.nf_ok _ hg, LF.same_ok h]
      · cases h
    cases f1 with | int _ k1 h1 => cases f2 with | int _ k2 h2 =>
    refine ⟨xgK (tr :: t.ids) (vOf cnt t.nodes) (oOf t.nodes) a, w0, w3, w4, w5, w6, w7, w8, w9, w10, ?_, ?_⟩
    · rw [← xhE hconc, List.getElem?_map, ha]; rfl
    · rw [h1, h2, ← g _ _ hl.1, ← g _ _ hl.2]; rfl
  | _ => rw [hob] at O; exact O.elim
end
section
open PySem
theorem xao (σ : St) (i : Nat) (o : xg2) (j : Nat) : (σ.set i o).objs j = if j = i then o else σ.objs j := rfl
theorem xiI (σ : St) (i : Nat) (o : xg2) : (σ.set i o).next = σ.next := rfl
theorem xgZ (σ : St) (i : Nat) (o o' : xg2) : (σ.set i o).set i o' = σ.set i o' := by
  unfold St.set
  congr 1
  funext j
  dsimp only
  split <;> rfl
theorem xap {α β : Type} (a : α) (σ : St) (f : α → St → Option (β × St)) : bnd (some (a, σ)) f = f a σ := rfl
def T.addOff (k : Int) : T → T
  | .E => .E
  | .N l x r => .N l { x with off := x.off + k } r
def Nd.down (x : Nd) : Nd := { x with b := x.b + x.off, e := x.e + x.off, lim := x.lim + x.off, off := 0 }
theorem xb3 (k : Int) (t : T) : (t.addOff k).ids = t.ids := by
  cases t with
  | E => rfl
  | N l x r => show (l.nodes ++ _ :: r.nodes).map _ = (l.nodes ++ x :: r.nodes).map _; rw [List.map_append, List.map_append]; rfl
theorem xbJ (k : Int) (t : T) : (t.addOff k).ptr = t.ptr := by cases t <;> rfl
theorem xdh (k c : Int) (t : T) : (t.addOff k).inord c = t.inord (c + k) := by
  cases t with
  | E => rfl
  | N l x r => simp only [T.addOff, T.inord]; rw [show c + (x.off + k) = c + k + x.off by omega]
theorem xcC (k : Int) (t : T) : (t.addOff k).shape = t.shape := by cases t <;> rfl
theorem xdv {k : Int} {t : T} (h : t.UB) : (t.addOff k).UB := by cases t <;> exact h
theorem xdi (k : Int) (t : T) : (t.addOff k).top = t.top.map (· + k) := by
  cases t with
  | E => rfl
  | N l x r => show some _ = some _; congr 1; show x.lim + (x.off + k) = x.lim + x.off + k; omega
theorem Sub.of {σ σ' : St} : ∀ {t : T} {p : PV}, (∀ a ∈ t.ids, σ'.objs a = σ.objs a) → Sub σ p t → Sub σ' p t
  | .E, _, _, _ => trivial
  | .N l x r, p, h, ⟨h1, h2, h3⟩ => by
    have hm : x.id ∈ (T.N l x r).ids := by show x.id ∈ (l.nodes ++ x :: r.nodes).map _; simp
    refine ⟨by rw [h _ hm]; exact h1, Sub.of (fun a ha => h a ?_) h2, Sub.of (fun a ha => h a ?_) h3⟩
    · show a ∈ (l.nodes ++ x :: r.nodes).map _
      rw [List.map_append]; exact List.mem_append_left _ ha
    · show a ∈ (l.nodes ++ x :: r.nodes).map _
      rw [List.map_append, List.map_cons]; exact List.mem_append_right _ (List.mem_cons_of_mem _ ha)
theorem xbb (l : T) (x : Nd) (r : T) : (T.N l x r).ids = l.ids ++ x.id :: r.ids := by
  show (l.nodes ++ x :: r.nodes).map _ = _
  rw [List.map_append, List.map_cons]; rfl
theorem Sub.addOff {σ σ' : St} {k : Int} {t : T} {p : PV} (hn : t.ids.Nodup) (h : Sub σ p t) (hs : ∀ l x r, t = .N l x r → σ'.objs x.id = Nd.obj { x with off := x.off + k } l.ptr r.ptr p) (ho : ∀ a ∈ t.ids, t.ptr ≠ .ref a → σ'.objs a = σ.objs a) : Sub σ' p (t.addOff k) := by
  cases t with
  | E => trivial
  | N l x r =>
    obtain ⟨h1, h2, h3⟩ := h
    rw [xbb] at hn ho
    have hd := List.nodup_append.mp hn
    have hd2 := List.nodup_cons.mp hd.2.1
    refine ⟨hs l x r rfl, Sub.of (fun a ha => ho a (List.mem_append_left _ ha) ?_) h2, Sub.of (fun a ha => ho a (List.mem_append_right _ (List.mem_cons_of_mem _ ha)) ?_) h3⟩
    · intro q; cases q; exact hd.2.2 _ ha _ (List.mem_cons_self ..) rfl
    · intro q; cases q; exact hd2.1 ha
theorem xt5 {σ : St} {p : PV} {l r : T} {x : Nd} (h : Sub σ p (.N l x r)) (hn : (T.N l x r).ids.Nodup) :
    ∃ σ', xaT 1 1 xcd [.ref x.id] σ = some (.none, σ') ∧ (σ'.next = σ.next ∧ σ'.objs x.id = x.down.obj l.ptr r.ptr p ∧ (∀ ll y lr, l = .N ll y lr → σ'.objs y.id = Nd.obj { y with off := y.off + x.off } ll.ptr lr.ptr (.ref x.id)) ∧
      (∀ rl y rr, r = .N rl y rr → σ'.objs y.id = Nd.obj { y with off := y.off + x.off } rl.ptr rr.ptr (.ref x.id)) ∧ ∀ a, a ≠ x.id → l.ptr ≠ .ref a → r.ptr ≠ .ref a → σ'.objs a = σ.objs a) := by
  obtain ⟨h1, h2, h3⟩ := h
  have hx : σ.objs x.id = .inst 0 [x.num, .int x.b, .int x.e, x.fa, x.ra, .int x.lim, .int x.off, .bool x.red, l.ptr, r.ptr, p] := h1
  rw [xbb] at hn
  have hd := List.nodup_append.mp hn
  have hd2 := List.nodup_cons.mp hd.2.1
  cases l with
  | E =>
    cases r with
    | E =>
      unfold xcd
      simp only [xaT, xa5, xa7, xbG, xa9, xa3, xap, xeE, xeJ, xa1, xa8, xaN, xbO, xao, xiI, xgZ, xda, xal, xaI, xaA, xay, xat, xaf, List.lookup, xbo, xeN, sIf, xaP, xai, xbc, xcc, xaW, xaC, xaK, List.map, List.length, List.replicate, List.cons_append, List.nil_append, List.getElem?_cons_zero, List.getElem?_cons_succ, beq_self_eq_true, List.set, Option.map, Bool.not_true, Bool.false_eq_true, Option.some.injEq, Prod.mk.injEq, true_and, exists_eq_left', ↓reduceIte, Nat.reduceAdd, Nat.reduceLT, Nat.reduceLeDiff, hx, T.ptr]
      refine ⟨rfl, (fun _ _ _ q => by cases q), (fun _ _ _ q => by cases q), fun a ha _ _ => by rw [if_neg ha]⟩
    | N rl z rr =>
      have hz : σ.objs z.id = .inst 0 [z.num, .int z.b, .int z.e, z.fa, z.ra, .int z.lim, .int z.off, .bool z.red, rl.ptr, rr.ptr, .ref x.id] := h3.1
      have n1 : z.id ≠ x.id := fun q => hd2.1 (by rw [xbb, ← q]; simp)
      have n2 := Ne.symm n1
      unfold xcd
      simp only [xaT, xa5, xa7, xbG, xa9, xa3, xap, xeE, xeJ, xa1, xa8, xaN, xbO, xao, xiI, xgZ, xda, xal, xaI, xaA, xay, xat, xaf, List.lookup, xbo, xeN, sIf, xaP, xai, xbc, xcc, xaW, xaC, xaK, List.map, List.length, List.replicate, List.cons_append, List.nil_append, List.getElem?_cons_zero, List.getElem?_cons_succ, beq_self_eq_true, List.set, Option.map, Bool.not_true, Bool.not_false, Bool.false_eq_true, Option.some.injEq, Prod.mk.injEq, true_and, exists_eq_left', ↓reduceIte, Nat.reduceAdd, Nat.reduceLT, Nat.reduceLeDiff, hx, hz, T.ptr, n1, n2]
      refine ⟨rfl, (fun _ _ _ q => by cases q), (fun _ _ _ q => by cases q; simp only [n1, ↓reduceIte]; rfl), fun a ha _ hb => ?_⟩
      have hb' : a ≠ z.id := fun q => hb (by rw [q])
      simp only [ha, hb', ↓reduceIte]
  | N ll y lr =>
    have hy : σ.objs y.id = .inst 0 [y.num, .int y.b, .int y.e, y.fa, y.ra, .int y.lim, .int y.off, .bool y.red, ll.ptr, lr.ptr, .ref x.id] := h2.1
    have n3 : y.id ≠ x.id := fun q => hd.2.2 y.id (by rw [xbb]; simp) x.id (List.mem_cons_self ..) q
    have n4 := Ne.symm n3
    cases r with
    | E =>
      unfold xcd
      simp only [xaT, xa5, xa7, xbG, xa9, xa3, xap, xeE, xeJ, xa1, xa8, xaN, xbO, xao, xiI, xgZ, xda, xal, xaI, xaA, xay, xat, xaf, List.lookup, xbo, xeN, sIf, xaP, xai, xbc, xcc, xaW, xaC, xaK, List.map, List.length, List.replicate, List.cons_append, List.nil_append, List.getElem?_cons_zero, List.getElem?_cons_succ, beq_self_eq_true, List.set, Option.map, Bool.not_true, Bool.not_false, Bool.false_eq_true, Option.some.injEq, Prod.mk.injEq, true_and, exists_eq_left', ↓reduceIte, Nat.reduceAdd, Nat.reduceLT, Nat.reduceLeDiff, hx, hy, T.ptr, n3, n4]
      refine ⟨rfl, (fun _ _ _ q => by cases q; simp only [n3, ↓reduceIte]; rfl), (fun _ _ _ q => by cases q), fun a ha hb _ => ?_⟩
      have hb' : a ≠ y.id := fun q => hb (by rw [q])
      simp only [ha, hb', ↓reduceIte]
    | N rl z rr =>
      have hz : σ.objs z.id = .inst 0 [z.num, .int z.b, .int z.e, z.fa, z.ra, .int z.lim, .int z.off, .bool z.red, rl.ptr, rr.ptr, .ref x.id] := h3.1
      have n1 : z.id ≠ x.id := fun q => hd2.1 (by rw [xbb, ← q]; simp)
      have n2 := Ne.symm n1
      have n5 : y.id ≠ z.id := fun q => hd.2.2 y.id (by rw [xbb]; simp) z.id (List.mem_cons_of_mem _ (by rw [xbb]; simp)) q
      have n6 := Ne.symm n5
      unfold xcd
      simp only [xaT, xa5, xa7, xbG, xa9, xa3, xap, xeE, xeJ, xa1, xa8, xaN, xbO, xao, xiI, xgZ, xda, xal, xaI, xaA, xay, xat, xaf, List.lookup, xbo, xeN, sIf, xaP, xai, xbc, xcc, xaW, xaC, xaK, List.map, List.length, List.replicate, List.cons_append, List.nil_append, List.getElem?_cons_zero, List.getElem?_cons_succ, beq_self_eq_true, List.set, Option.map, Bool.not_false, Option.some.injEq, Prod.mk.injEq, true_and, exists_eq_left', ↓reduceIte, Nat.reduceAdd, Nat.reduceLT, Nat.reduceLeDiff, hx, hy, hz, T.ptr, n1, n2, n3, n4, n5, n6]
      refine ⟨rfl, (fun _ _ _ q => by cases q; simp only [n3, n5, ↓reduceIte]; rfl), (fun _ _ _ q => by cases q; simp only [n1, n6, ↓reduceIte]; rfl), fun a ha hb hc => ?_⟩
      have hb' : a ≠ y.id := fun q => hb (by rw [q])
      have hc' : a ≠ z.id := fun q => hc (by rw [q])
      simp only [ha, hb', hc', ↓reduceIte]
theorem xoa {σ : St} {p : PV} {l r : T} {x : Nd} (h : Sub σ p (.N l x r)) (hn : (T.N l x r).ids.Nodup) :
    ∃ σ', xba [.ref x.id] σ = some (.none, σ') ∧ σ'.next = σ.next ∧ Sub σ' p (.N (l.addOff x.off) x.down (r.addOff x.off)) ∧ ∀ a, a ∉ (T.N l x r).ids → σ'.objs a = σ.objs a := by
  obtain ⟨σ', e, e1, e2, e3, e4, e5⟩ := xt5 h hn
  obtain ⟨h1, h2, h3⟩ := h
  have hn' := hn
  rw [xbb] at hn
  have hd := List.nodup_append.mp hn
  have hd2 := List.nodup_cons.mp hd.2.1
  have ptrMem : ∀ (t : T) (a : Nat), t.ptr = .ref a → a ∈ t.ids := by
    intro t a h
    cases t with
    | E => cases h
    | N l x r => cases h; rw [xbb]; simp
  refine ⟨σ', xqv e, e1, ⟨by rw [xbJ, xbJ]; exact e2, ?_, ?_⟩, fun a ha => ?_⟩
  · refine Sub.addOff hd.1 h2 e3 fun a ha hp => e5 a (fun q => hd.2.2 a ha _ (List.mem_cons_self ..) q) hp (fun q => hd.2.2 a ha a (List.mem_cons_of_mem _ (ptrMem _ _ q)) rfl)
  · refine Sub.addOff hd2.2 h3 e4 fun a ha hp => e5 a (fun q => hd2.1 (q ▸ ha)) (fun q => hd.2.2 a (ptrMem _ _ q) a (List.mem_cons_of_mem _ ha) rfl) hp
  · rw [xbb] at ha
    simp only [List.mem_append, List.mem_cons, not_or] at ha
    exact e5 a ha.2.1 (fun q => ha.1 (ptrMem _ _ q)) (fun q => ha.2.2 (ptrMem _ _ q))
end
section
open PySem
theorem xav {a b : xa6 → M (FR × xa6)} {fr fr1 : xa6} {σ σ1 : St} {r} (h : a fr σ = some ((.next, fr1), σ1)) (k : b fr1 σ1 = r) : xa5 a b fr σ = r := by unfold xa5; rw [xaj h]; exact k
theorem xam {a b : xa6 → M (FR × xa6)} {fr : xa6} {σ σ1 : St} {r} (h : a fr σ = some ((.next, fr), σ1)) (k : b fr σ1 = r) : xa5 a b fr σ = r := xav h k
theorem xb8 {a b : xa6 → M (FR × xa6)} {fr fr1 : xa6} {σ σ1 : St} {v} (h : a fr σ = some ((.ret v, fr1), σ1)) : xa5 a b fr σ = some ((.ret v, fr1), σ1) := by unfold xa5; rw [xaj h]
theorem xb2 {F : List PV → M PV} {m : xa6 → M (List PV)} {fr : xa6} {σ σ0 : St} {vs} {r} (hm : m fr σ = some (vs, σ0)) (hF : F vs σ0 = r) : xad F m fr σ = r := by
  unfold xad; rw [xaj hm]; exact hF
theorem xbx {F : List PV → M PV} {m : xa6 → M (List PV)} {fr : xa6} {σ σ0 σ1 : St} {vs p} (hm : m fr σ = some (vs, σ0)) (hF : F vs σ0 = some (p, σ1)) : xb1 (xad F m) fr σ = some ((.next, fr), σ1) := by
  unfold xb1; rw [xaj (xb2 hm hF)]
def mx (a b : Int) : Int := if b > a then b else a
theorem xoB (a b : Int) : a ≤ mx a b := by unfold mx; split <;> omega
theorem xpz (a b : Int) : b ≤ mx a b := by unfold mx; split <;> omega
theorem xsf {a a' b : Int} (h : a ≤ a') : mx a b ≤ mx a' b := by unfold mx; split <;> split <;> omega
def Nd.into (x : Nd) (k : Int) (e : Int) : Nd := { x with b := x.b + k, e := x.e + k, lim := mx (x.lim + k) e, off := 0 }
def xhA (nd : Nd) : Int → T → T
  | _, .E => .N .E nd .E
  | c, .N l x r => if nd.b ≤ x.b + (x.off + c) then .N (xhA nd (x.off + c) l) (x.into (x.off + c) nd.e) (r.addOff (x.off + c)) else .N (l.addOff (x.off + c)) (x.into (x.off + c) nd.e) (xhA nd (x.off + c) r)
def xd8 (b : Int) : Int → T → Nat
  | _, .E => 0
  | c, .N l x r => if b ≤ x.b + (x.off + c) then xd8 b (x.off + c) l else l.shape.size + 1 + xd8 b (x.off + c) r
theorem xfj (b : Int) : ∀ (c : Int) (t : T), xd8 b c t ≤ t.shape.size
  | _, .E => Nat.le_refl _
  | c, .N l x r => by
    have h1 := xfj b (x.off + c) l
    have h2 := xfj b (x.off + c) r
    unfold xd8
    show _ ≤ l.shape.size + 1 + r.shape.size
    split <;> omega
theorem xpn (l r : Sh) (c : Bool) (k : Nat) : xiB (.N l c r) k = if k ≤ l.size then .N (xiB l k) c r else .N l c (xiB r (k - l.size - 1)) := rfl
theorem xi1 {nd : Nd} (hr : nd.red = true) : ∀ (c : Int) (t : T), (xhA nd c t).shape = xiB t.shape (xd8 nd.b c t)
  | _, .E => by show Sh.N .E nd.red .E = _; rw [hr]; rfl
  | c, .N l x r => by
    have h1 := xfj nd.b (x.off + c) l
    unfold xhA xd8
    split
    · show Sh.N (xhA nd _ l).shape x.red (r.addOff _).shape = xiB (.N l.shape x.red r.shape) _
      rw [xi1 hr, xcC, xpn, if_pos h1]
    · show Sh.N (l.addOff _).shape x.red (xhA nd _ r).shape = xiB (.N l.shape x.red r.shape) _
      rw [xi1 hr, xcC, xpn, if_neg (by omega), show l.shape.size + 1 + xd8 nd.b (x.off + c) r - l.shape.size - 1 = xd8 nd.b (x.off + c) r by omega]
theorem xhj {nd : Nd} : ∀ (c : Int) (t : T), (xhA nd c t).ids = t.ids.take (xd8 nd.b c t) ++ nd.id :: t.ids.drop (xd8 nd.b c t)
  | _, .E => rfl
  | c, .N l x r => by
    have h1 := xfj nd.b (x.off + c) l
    have hl : l.ids.length = l.shape.size := by rw [T.shape_size]; simp [T.ids]
    rw [xbb]
    unfold xhA xd8
    split
    · rw [xbb, xhj, xb3, List.take_append_of_le_length (by omega), List.drop_append_of_le_length (by omega)]
      simp [Nd.into]
    · rw [xbb, xhj, xb3, show l.shape.size + 1 + xd8 nd.b (x.off + c) r = l.ids.length + (xd8 nd.b (x.off + c) r + 1) by omega, List.take_length_add_append, List.drop_length_add_append, List.take_succ_cons, List.drop_succ_cons]
      simp [Nd.into]
theorem xsc {nd : Nd} (c : Int) (t : T) : (xhA nd c t).ids[xd8 nd.b c t]? = some nd.id := by
  have h := xfj nd.b c t
  have hl : t.ids.length = t.shape.size := by rw [T.shape_size]; simp [T.ids]
  rw [xhj, List.getElem?_append_right (by rw [List.length_take]; omega), List.length_take, Nat.min_eq_left (by omega), Nat.sub_self]
  rfl
theorem xp8 {nd : Nd} {c : Int} {t : T} (h : t.ids.Nodup) (hn : nd.id ∉ t.ids) : (xhA nd c t).ids.Nodup := by
  rw [xhj]
  have e : t.ids = t.ids.take (xd8 nd.b c t) ++ t.ids.drop (xd8 nd.b c t) := (List.take_append_drop _ _).symm
  have hp : (t.ids.take (xd8 nd.b c t) ++ nd.id :: t.ids.drop (xd8 nd.b c t)).Perm (nd.id :: t.ids) := by
    refine List.perm_middle.trans ?_
    rw [← e]
  exact hp.nodup_iff.mpr (List.nodup_cons.mpr ⟨hn, h⟩)
theorem xqV {nd : Nd} {c : Int} {t : T} {a : Nat} : a ∈ (xhA nd c t).ids ↔ a = nd.id ∨ a ∈ t.ids := by
  rw [xhj]
  have e : t.ids = t.ids.take (xd8 nd.b c t) ++ t.ids.drop (xd8 nd.b c t) := (List.take_append_drop _ _).symm
  conv => rhs; rw [e]
  simp only [List.mem_append, List.mem_cons]
  constructor
  · rintro (h | h | h)
    · exact .inr (.inl h)
    · exact .inl h
    · exact .inr (.inr h)
  · rintro (h | h | h)
    · exact .inr (.inl h)
    · exact .inl h
    · exact .inr (.inr h)
theorem xr5 {nd : Nd} (ho : nd.off = 0) (hl : nd.lim = nd.e) : ∀ (c : Int) (t : T) (m : Int), (xhA nd c t).top = some m → m = match t.top with | none => nd.e | some k => mx (k + c) nd.e
  | _, .E, m, h => by cases h; show nd.lim + nd.off = nd.e; omega
  | c, .N l x r, m, h => by
    unfold xhA at h
    show m = mx (x.lim + x.off + c) nd.e
    have e : x.lim + x.off + c = x.lim + (x.off + c) := by omega
    rw [e]
    split at h
    · cases h; show mx _ _ + 0 = _; omega
    · cases h; show mx _ _ + 0 = _; omega
theorem xnt {nd : Nd} (ho : nd.off = 0) (hl : nd.lim = nd.e) : ∀ (c : Int) {t : T}, t.UB → (xhA nd c t).UB
  | _, .E, _ => ⟨by omega, (fun _ h => by cases h), (fun _ h => by cases h), trivial, trivial⟩
  | c, .N l x r, h => by
    obtain ⟨u1, u2, u3, u4, u5⟩ := h
    have sub : ∀ t : T, (∀ m, t.top = some m → m ≤ x.lim) → ∀ m, (xhA nd (x.off + c) t).top = some m → m ≤ mx (x.lim + (x.off + c)) nd.e := by
      intro t ht m hm
      have := xr5 ho hl _ _ _ hm
      rw [this]
      cases q : t.top with
      | none => exact xpz _ _
      | some k => exact xsf (by have := ht k q; omega)
    have oth : ∀ t : T, (∀ m, t.top = some m → m ≤ x.lim) → ∀ m, (t.addOff (x.off + c)).top = some m → m ≤ mx (x.lim + (x.off + c)) nd.e := by
      intro t ht m hm
      rw [xdi] at hm
      obtain ⟨k, hk, rfl⟩ := Option.map_eq_some_iff.mp hm
      have := ht k hk
      have := xoB (x.lim + (x.off + c)) nd.e
      omega
    have ue : x.e + (x.off + c) ≤ mx (x.lim + (x.off + c)) nd.e := by have := xoB (x.lim + (x.off + c)) nd.e; omega
    unfold xhA
    split
    · exact ⟨ue, sub l u2, oth r u3, xnt ho hl _ u4, xdv u5⟩
    · exact ⟨ue, oth l u2, sub r u3, xdv u4, xnt ho hl _ u5⟩
def xec (it : It) : List It → List It
  | [] => [it]
  | x :: l => if it.b ≤ x.b then it :: x :: l else x :: xec it l
theorem xks {it x : It} : ∀ {l1 l2 : List It}, it.b ≤ x.b → xec it (l1 ++ x :: l2) = xec it l1 ++ x :: l2
  | [], l2, h => by show xec it (x :: l2) = [it] ++ _; unfold xec; rw [if_pos h]; rfl
  | y :: l1, l2, h => by
    show xec it (y :: (l1 ++ x :: l2)) = xec it (y :: l1) ++ _
    unfold xec
    split
    · rfl
    · rw [xks h]; rfl
theorem xj6 {it x : It} : ∀ {l1 l2 : List It}, (∀ y ∈ l1, y.b ≤ x.b) → ¬ it.b ≤ x.b → xec it (l1 ++ x :: l2) = l1 ++ x :: xec it l2
  | [], l2, _, h => by show xec it (x :: l2) = _; conv => lhs; unfold xec
                       rw [if_neg h]; rfl
  | y :: l1, l2, h1, h => by
    show xec it (y :: (l1 ++ x :: l2)) = y :: (l1 ++ x :: xec it l2)
    conv => lhs; unfold xec
    have := h1 y (List.mem_cons_self ..)
    rw [if_neg (by omega), xj6 (fun z hz => h1 z (List.mem_cons_of_mem _ hz)) h]
def xgh (l : List It) : Prop := l.Pairwise (fun a b => a.b ≤ b.b)
theorem xi2 {nd : Nd} (ho : nd.off = 0) : ∀ (c : Int) (t : T), xgh (t.inord c) → (xhA nd c t).inord 0 = xec ⟨nd.id, nd.num, nd.b, nd.e⟩ (t.inord c)
  | c, .E, _ => by
    show [] ++ _ :: [] = [_]
    rw [ho]
    show [It.mk _ _ (nd.b + (0 + 0)) (nd.e + (0 + 0))] = _
    rw [show (0 : Int) + 0 = 0 by rfl, Int.add_zero, Int.add_zero]
  | c, .N l x r, hs => by
    have hs' : xgh (l.inord (c + x.off) ++ ⟨x.id, x.num, x.b + (c + x.off), x.e + (c + x.off)⟩ :: r.inord (c + x.off)) := hs
    have hp := List.pairwise_append.mp hs'
    have hp2 := List.pairwise_cons.mp hp.2.1
    have e : c + x.off = x.off + c := by omega
    show _ = xec _ (l.inord (c + x.off) ++ ⟨x.id, x.num, x.b + (c + x.off), x.e + (c + x.off)⟩ :: r.inord (c + x.off))
    rw [e] at hp hp2 ⊢
    have z : ∀ k : Int, k + (0 + 0) = k := fun k => by omega
    unfold xhA
    split
    · rename_i hle
      rw [xks hle, ← xi2 ho _ l hp.1]
      show (xhA nd _ l).inord (0 + 0) ++ ⟨x.id, x.num, x.b + (x.off + c) + (0 + 0), x.e + (x.off + c) + (0 + 0)⟩ :: (r.addOff _).inord (0 + 0) = _
      rw [xdh, z, z]
      simp
    · rename_i hle
      rw [xj6 (fun y hy => hp.2.2 y hy _ (List.mem_cons_self ..)) hle, ← xi2 ho _ r hp2.2]
      show (l.addOff _).inord (0 + 0) ++ ⟨x.id, x.num, x.b + (x.off + c) + (0 + 0), x.e + (x.off + c) + (0 + 0)⟩ :: (xhA nd _ r).inord (0 + 0) = _
      rw [xdh, z, z]
      simp
end
section
open PySem
noncomputable def xm2 : xa6 → M Bool := xaP (xa3 2) (xai xbc xaW)
noncomputable def xpv : xa6 → M (FR × xa6) :=
    (xa5 (xa7 xaA (xa3 2) (xad xhJ (xa1 (xa9 xaA (xa3 2)) (xa1 (xa9 xaI (xa3 1)) xa8))))
    (xa5 (xak 3 (xa3 2))
    (xa5 (xak 4 (xdY (xa9 xal (xa3 1)) (xai cLe (xa9 xal (xa3 2)))))
    (xa5 (xak 2 (eIf (xbe (xa3 4)) (xa9 xat (xa3 2)) (xa9 xaf (xa3 2))))
    xaC))))
noncomputable def xoD : xa6 → M (FR × xa6) := xa5 (xb1 (xad xba (xa1 (xa3 2) xa8))) xpv
theorem xsi {σ : St} {tr : Nat} {p pv : PV} {il0 : Option PV} {l r : T} {x : Nd} {nid : Nat} {num fa ra : PV} {b e lim off : Int} {red : Bool} {q1 q2 q3 : PV} (h : Sub σ p (.N l x r)) (hn : (T.N l x r).ids.Nodup) (hni : nid ∉ (T.N l x r).ids)
    (hnode : σ.objs nid = .inst 0 [num, .int b, .int e, fa, ra, .int lim, .int off, .bool red, q1, q2, q3]) :
    ∃ σ', xoD [some (.ref tr), some (.ref nid), some (.ref x.id), some pv, il0] σ = some ((.next, [some (.ref tr), some (.ref nid), some (if b ≤ x.b + x.off then l.ptr else r.ptr), some (.ref x.id), some (.bool (decide (b ≤ x.b + x.off)))]), σ') ∧
      (σ'.next = σ.next ∧ σ'.objs x.id = (x.into x.off e).obj l.ptr r.ptr p ∧ Sub σ' (.ref x.id) (l.addOff x.off) ∧ Sub σ' (.ref x.id) (r.addOff x.off) ∧ ∀ a, a ∉ (T.N l x r).ids → σ'.objs a = σ.objs a) := by
  obtain ⟨σ1, e1, e2, ⟨e3, e4, e5⟩, e6⟩ := xoa h hn
  have hx : σ1.objs x.id = .inst 0 [x.num, .int (x.b + x.off), .int (x.e + x.off), x.fa, x.ra, .int (x.lim + x.off), .int 0, .bool x.red, l.ptr, r.ptr, p] := by rw [xbJ, xbJ] at e3; exact e3
  have hnd : σ1.objs nid = .inst 0 [num, .int b, .int e, fa, ra, .int lim, .int off, .bool red, q1, q2, q3] := by rw [e6 nid hni]; exact hnode
  have n1 : nid ≠ x.id := fun q => hni (by rw [xbb, q]; simp)
  have n2 := Ne.symm n1
  have hn' := hn
  rw [xbb] at hn'
  have hd := List.nodup_append.mp hn'
  have hd2 := List.nodup_cons.mp hd.2.1
  have key : ∃ σ', xpv [some (.ref tr), some (.ref nid), some (.ref x.id), some pv, il0] σ1 = some ((.next, [some (.ref tr), some (.ref nid), some (if b ≤ x.b + x.off then l.ptr else r.ptr), some (.ref x.id), some (.bool (decide (b ≤ x.b + x.off)))]), σ') ∧ (σ' = σ1.set x.id ((x.into x.off e).obj l.ptr r.ptr p)) := by
    unfold xpv
    by_cases hc : b ≤ x.b + x.off
    · simp only [xa5, xa7, xak, xa9, xa3, xap, xad, eIf, xa1, xa8, xaN, xbO, xao, xal, xaI, xaA, xat, xaf, List.lookup, xdY, xbe, xew, xai, xg3, cLe, xaC, xhJ, List.length, List.getElem?_cons_zero, List.getElem?_cons_succ, beq_self_eq_true, List.set, Option.some.injEq, Prod.mk.injEq, true_and, exists_eq_left', ↓reduceIte, Nat.reduceAdd, Nat.reduceLT, decide_true, hx, hnd, n1, n2, hc]
      rfl
    · simp only [xa5, xa7, xak, xa9, xa3, xap, xad, eIf, xa1, xa8, xaN, xbO, xao, xal, xaI, xaA, xat, xaf, List.lookup, xdY, xbe, xew, xai, xg3, cLe, xaC, xhJ, List.length, List.getElem?_cons_zero, List.getElem?_cons_succ, beq_self_eq_true, List.set, Bool.false_eq_true, Option.some.injEq, Prod.mk.injEq, true_and, exists_eq_left', ↓reduceIte, Nat.reduceAdd, Nat.reduceLT, decide_false, hx, hnd, n1, n2, hc]
      rfl
  obtain ⟨σ', k1, rfl⟩ := key
  refine ⟨_, xav (xbx (p := .none) (vs := [.ref x.id]) (σ0 := σ) rfl e1) k1, e2, if_pos rfl, Sub.of (fun a ha => ?_) e4, Sub.of (fun a ha => ?_) e5, fun a ha => ?_⟩
  · rw [xb3] at ha
    exact if_neg (fun q => hd.2.2 a ha _ (List.mem_cons_self ..) q)
  · rw [xb3] at ha
    exact if_neg (fun q : a = x.id => hd2.1 (by rw [← q]; exact ha))
  · refine (if_neg (fun q => ha ?_)).trans (e6 a ha)
    rw [xbb, q]; simp
theorem xsh {tr nid : Nat} {nd : Nd} (hid : nd.id = nid) (hoff : nd.off = 0) (hlim : nd.lim = nd.e) {lim off : Int} {red : Bool} {q1 q2 q3 : PV} : ∀ (t : T) (c : Int) (p pv : PV) (il0 : Option PV) (σ : St), t ≠ .E → Sub σ p (t.addOff c) → t.ids.Nodup → nid ∉ t.ids →
    σ.objs nid = .inst 0 [nd.num, .int nd.b, .int nd.e, nd.fa, nd.ra, .int lim, .int off, .bool red, q1, q2, q3] →
    ∃ (Y : Nd) (lp rp pp : PV) (il : Bool) (σ1 : St), xcB xm2 xoD [some (.ref tr), some (.ref nid), some t.ptr, some pv, il0] σ = some ((.next, [some (.ref tr), some (.ref nid), some .none, some (.ref Y.id), some (.bool il)]), σ1) ∧ σ1.next = σ.next ∧ (∀ a, a ∉ t.ids → σ1.objs a = σ.objs a) ∧
      Y.id ∈ t.ids ∧ σ1.objs Y.id = Y.obj lp rp pp ∧
      ∀ σ2 : St, (∀ a, a ≠ Y.id → a ≠ nid → σ2.objs a = σ1.objs a) → σ2.objs Y.id = (if il then Y.obj (.ref nid) rp pp else Y.obj lp (.ref nid) pp) → σ2.objs nid = nd.obj .none .none (.ref Y.id) → Sub σ2 p (xhA nd c t) ∧ (xhA nd c t).ptr = t.ptr := by
  intro t
  induction t with
  | E => intro c p pv il0 σ h; exact absurd rfl h
  | N l x r ihl ihr =>
    intro c p pv il0 σ _ hs hn hni hnode
    have hs' : Sub σ p (.N l { x with off := x.off + c } r) := hs
    have hnn : (T.N l { x with off := x.off + c } r).ids = (T.N l x r).ids := by rw [xbb, xbb]
    obtain ⟨σ1, e1, e2, e3, e4, e5, e6⟩ := xsi (tr := tr) (pv := pv) (il0 := il0) hs' (hnn ▸ hn) (hnn ▸ hni) hnode
    rw [hnn] at e6
    have hn' := hn
    rw [xbb] at hn'
    have hd := List.nodup_append.mp hn'
    have hd2 := List.nodup_cons.mp hd.2.1
    have hni' := hni
    rw [xbb] at hni'
    simp only [List.mem_append, List.mem_cons, not_or] at hni'
    have hcond : ∀ (v : Nat) (pv : PV) (il : Option PV) (s : St), xm2 [some (.ref tr), some (.ref nid), some (.ref v), some pv, il] s = some (true, s) := fun v pv il s => rfl
    have hcondE : ∀ (pv : PV) (il : Option PV) (s : St), xm2 [some (.ref tr), some (.ref nid), some .none, some pv, il] s = some (false, s) := fun pv il s => rfl
    have hnode1 : σ1.objs nid = .inst 0 [nd.num, .int nd.b, .int nd.e, nd.fa, nd.ra, .int lim, .int off, .bool red, q1, q2, q3] := by rw [e6 nid hni]; exact hnode
    have hmx : x.id ∈ (T.N l x r).ids := by rw [xbb]; simp
    have e3' : σ1.objs x.id = (x.into (x.off + c) nd.e).obj l.ptr r.ptr p := e3
    by_cases hc : nd.b ≤ x.b + (x.off + c)
    · have e1' := e1
      simp only [hc, ↓reduceIte, decide_true] at e1'
      have hins : xhA nd c (.N l x r) = .N (xhA nd (x.off + c) l) (x.into (x.off + c) nd.e) (r.addOff (x.off + c)) := if_pos hc
      cases l with
      | E =>
        refine ⟨x.into (x.off + c) nd.e, .none, r.ptr, p, true, σ1, xd3 (hcond _ _ _ _) e1' (xfi (hcondE _ _ _)), e2, e6, hmx, e3', fun σ2 h1 h2 h3 => ?_⟩
        rw [hins]
        refine ⟨⟨by rw [xbJ]; show _ = Nd.obj _ (.ref nd.id) r.ptr p; rw [hid]; exact h2, ⟨?_, trivial, trivial⟩, ?_⟩, rfl⟩
        · rw [hid]; exact h3
        · exact Sub.of (fun a ha => by rw [xb3] at ha; exact h1 a (fun q => hd2.1 (by have q : a = x.id := q; rw [← q]; exact ha)) (fun q => hni'.2.2 (q ▸ ha))) e5
      | N ll y lr =>
        have hne : T.N ll y lr ≠ .E := by intro q; cases q
        obtain ⟨Y, lp, rp, pp, il, σ3, f1, f2, f3, f4, f5, f6⟩ := ihl (x.off + c) (.ref x.id) (.ref x.id) (some (.bool true)) σ1 hne e4 hd.1 hni'.1 hnode1
        refine ⟨Y, lp, rp, pp, il, σ3, xd3 (hcond _ _ _ _) e1' f1, f2.trans e2, fun a ha => ?_, ?_, f5, fun σ2 h1 h2 h3 => ?_⟩
        · rw [xbb] at ha
          simp only [List.mem_append, List.mem_cons, not_or] at ha
          rw [f3 a ha.1]
          exact e6 a (by rw [xbb]; simp only [List.mem_append, List.mem_cons, not_or]; exact ha)
        · rw [xbb]; exact List.mem_append_left _ f4
        · obtain ⟨g1, g2⟩ := f6 σ2 h1 h2 h3
          have hxl : x.id ∉ (T.N ll y lr).ids := fun q => hd.2.2 _ q _ (List.mem_cons_self ..) rfl
          rw [hins]
          refine ⟨⟨?_, g1, ?_⟩, rfl⟩
          · rw [xbJ, g2]
            show σ2.objs x.id = _
            rw [h1 x.id (fun q => hxl (q ▸ f4)) (fun q => hni (q ▸ hmx)), f3 _ hxl]; exact e3'
          · refine Sub.of (fun a ha => ?_) e5
            rw [xb3] at ha
            have hal : a ∉ (T.N ll y lr).ids := fun q => hd.2.2 _ q _ (List.mem_cons_of_mem _ ha) rfl
            rw [h1 a (fun q => hal (q ▸ f4)) (fun q => hni'.2.2 (q ▸ ha)), f3 _ hal]
    · have e1' := e1
      simp only [hc, ↓reduceIte, decide_false] at e1'
      have hins : xhA nd c (.N l x r) = .N (l.addOff (x.off + c)) (x.into (x.off + c) nd.e) (xhA nd (x.off + c) r) := if_neg hc
      cases r with
      | E =>
        refine ⟨x.into (x.off + c) nd.e, l.ptr, .none, p, false, σ1, xd3 (hcond _ _ _ _) e1' (xfi (hcondE _ _ _)), e2, e6, hmx, e3', fun σ2 h1 h2 h3 => ?_⟩
        rw [hins]
        refine ⟨⟨by rw [xbJ]; show _ = Nd.obj _ l.ptr (.ref nd.id) p; rw [hid]; exact h2, ?_, ⟨?_, trivial, trivial⟩⟩, rfl⟩
        · exact Sub.of (fun a ha => by rw [xb3] at ha; exact h1 a (fun q => hd.2.2 a ha _ (List.mem_cons_self ..) q) (fun q => hni'.1 (q ▸ ha))) e4
        · rw [hid]; exact h3
      | N rl y rr =>
        have hne : T.N rl y rr ≠ .E := by intro q; cases q
        obtain ⟨Y, lp, rp, pp, il, σ3, f1, f2, f3, f4, f5, f6⟩ := ihr (x.off + c) (.ref x.id) (.ref x.id) (some (.bool false)) σ1 hne e5 hd2.2 hni'.2.2 hnode1
        refine ⟨Y, lp, rp, pp, il, σ3, xd3 (hcond _ _ _ _) e1' f1, f2.trans e2, fun a ha => ?_, ?_, f5, fun σ2 h1 h2 h3 => ?_⟩
        · rw [xbb] at ha
          simp only [List.mem_append, List.mem_cons, not_or] at ha
          rw [f3 a ha.2.2]
          exact e6 a (by rw [xbb]; simp only [List.mem_append, List.mem_cons, not_or]; exact ha)
        · rw [xbb]; exact List.mem_append_right _ (List.mem_cons_of_mem _ f4)
        · obtain ⟨g1, g2⟩ := f6 σ2 h1 h2 h3
          have hxl : x.id ∉ (T.N rl y rr).ids := hd2.1
          rw [hins]
          refine ⟨⟨?_, ?_, g1⟩, rfl⟩
          · rw [xbJ, g2]
            show σ2.objs x.id = _
            rw [h1 x.id (fun q => hxl (q ▸ f4)) (fun q => hni (q ▸ hmx)), f3 _ hxl]; exact e3'
          · refine Sub.of (fun a ha => ?_) e4
            rw [xb3] at ha
            have hal : a ∉ (T.N rl y rr).ids := fun q => hd.2.2 _ ha _ (List.mem_cons_of_mem _ q) rfl
            rw [h1 a (fun q => hal (q ▸ f4)) (fun q => hni'.1 (q ▸ ha)), f3 _ hal]
noncomputable def xoV : xa6 → M (FR × xa6) :=
    (xa5 (xa7 xau (xa3 1) (xa3 3))
    (xa5 (sIf (xbe (xa3 4)) (xa5 (xa7 xat (xa3 3) (xa3 1))
    xaC) (xa5 (xa7 xaf (xa3 3) (xa3 1))
    xaC))
    (xa5 (xa7 xan (xa3 1) (xch true))
    (xa5 (xb1 (xad xbU (xa1 (xa3 0) (xa1 (xa3 1) xa8))))
    xaC))))
noncomputable def xpT : xa6 → M (FR × xa6) :=
    (xa5 (xak 2 (xa9 xbh (xa3 0)))
    (xa5 (xak 3 xaW)
    (xa5 (xak 4 (xch false))
    (xa5 (xcB xm2 xoD) xoV))))
noncomputable def xqk (rest : xa6 → M (FR × xa6)) : xa6 → M (FR × xa6) :=
    (xa5 (xa7 xcu (xa3 0) (xbG xda (xa9 xcu (xa3 0)) (xaK 1)))
    (xa5 (xa7 xat (xa3 1) xaW)
    (xa5 (xa7 xaf (xa3 1) xaW)
    (xa5 (xa7 xau (xa3 1) xaW)
    (xa5 (xa7 xay (xa3 1) (xaK 0))
    (xa5 (xa7 xaA (xa3 1) (xa9 xaI (xa3 1))) rest))))))
theorem xqX : xgF = xqk (xa5 (sIf (xaP (xa9 xbh (xa3 0)) (xai cIs xaW)) (xa5 (xa7 xan (xa3 1) (xch false))
    (xa5 (xa7 xbh (xa3 0) (xa3 1))
    (xa5 xfR
    xaC))) xaC) xpT) := rfl
theorem xru {σ : St} {tr nid : Nat} {t : T} {num fa ra : PV} {b e lim off : Int} {red : Bool} {q1 q2 q3 : PV} (h : xkn σ tr t) (hub : t.UB) (hs : t.shape ∈ LS) (h5 : t.shape.size ≤ 5) (hni : nid ∉ tr :: t.ids) (hlt : nid < σ.next)
    (hnode : σ.objs nid = .inst 0 [num, .int b, .int e, fa, ra, .int lim, .int off, .bool red, q1, q2, q3]) (hso : xgh (t.inord 0)) :
    ∃ p σ' t', xdM [.ref tr, .ref nid] σ = some (p, σ') ∧ xkn σ' tr t' ∧ t'.shape ∈ LS ∧ t'.inord 0 = xec ⟨nid, num, b, e⟩ (t.inord 0) ∧ t'.UB ∧ Far σ (nid :: tr :: t.ids) σ' := by
  obtain ⟨cnt, hc⟩ := h.root
  have n1 : nid ≠ tr := fun q => hni (q ▸ List.mem_cons_self ..)
  have n2 := Ne.symm n1
  have hnt : nid ∉ t.ids := fun q => hni (List.mem_cons_of_mem _ q)
  have htt : tr ∉ t.ids := (List.nodup_cons.mp h.nodup).1
  have hhead : ∀ rest : xa6 → M (FR × xa6), xqk rest [some (.ref tr), some (.ref nid), none, none, none] σ = rest [some (.ref tr), some (.ref nid), none, none, none] ((σ.set tr (.inst 1 [t.ptr, .int (cnt + 1)])).set nid (.inst 0 [num, .int b, .int e, fa, ra, .int e, .int 0, .bool red, .none, .none, .none])) := by
    intro rest
    unfold xqk
    simp only [xa5, xa7, xbG, xa9, xa3, xap, xaN, xbO, xao, xgZ, xda, xaI, xaA, xay, xat, xaf, xau, xcu, List.lookup, xaW, xaK, List.length, List.getElem?_cons_zero, List.getElem?_cons_succ, beq_self_eq_true, List.set, ↓reduceIte, Nat.reduceAdd, Nat.reduceLT, hc, hnode, n1, n2]
  generalize hσ1 : (σ.set tr (.inst 1 [t.ptr, .int (cnt + 1)])).set nid (.inst 0 [num, .int b, .int e, fa, ra, .int e, .int 0, .bool red, .none, .none, .none]) = σ1 at hhead
  have g1 : σ1.objs nid = .inst 0 [num, .int b, .int e, fa, ra, .int e, .int 0, .bool red, .none, .none, .none] := by rw [← hσ1]; exact if_pos rfl
  have g2 : σ1.objs tr = .inst 1 [t.ptr, .int (cnt + 1)] := by rw [← hσ1, xao, if_neg n2, xao, if_pos rfl]
  have g3 : ∀ a, a ≠ nid → a ≠ tr → σ1.objs a = σ.objs a := fun a h1 h2 => by rw [← hσ1, xao, if_neg h1, xao, if_neg h2]
  have g4 : σ1.next = σ.next := by rw [← hσ1]; rfl
  have hsub1 : Sub σ1 .none t := Sub.of (fun a ha => g3 a (fun q => hnt (q ▸ ha)) (fun q => htt (q ▸ ha))) h.sub
  have hrun : ∀ (p : PV) (σ' : St) (f : FR) (fr' : xa6), (xa5 (sIf (xaP (xa9 xbh (xa3 0)) (xai cIs xaW)) (xa5 (xa7 xan (xa3 1) (xch false)) (xa5 (xa7 xbh (xa3 0) (xa3 1)) (xa5 xfR xaC))) xaC) xpT) [some (.ref tr), some (.ref nid), none, none, none] σ1 = some ((f, fr'), σ') → (match f with | .ret v => v | .next => .none) = p → xdM [.ref tr, .ref nid] σ = some (p, σ') := by
    intro p σ' f fr' h1 h2
    unfold xdM xaT
    rw [if_pos (show [PV.ref tr, PV.ref nid].length = 2 from rfl)]
    show bnd (xgF [some (.ref tr), some (.ref nid), none, none, none] σ) _ = _
    rw [xqX, hhead, h1]
    cases f with
    | next => cases h2; rfl
    | ret v => cases h2; rfl
  cases t with
  | E =>
    have key : ∃ σ', (xa5 (sIf (xaP (xa9 xbh (xa3 0)) (xai cIs xaW)) (xa5 (xa7 xan (xa3 1) (xch false)) (xa5 (xa7 xbh (xa3 0) (xa3 1)) (xa5 xfR xaC))) xaC) xpT) [some (.ref tr), some (.ref nid), none, none, none] σ1 = some ((.ret .none, [some (.ref tr), some (.ref nid), none, none, none]), σ') ∧ σ' = (σ1.set nid (.inst 0 [num, .int b, .int e, fa, ra, .int e, .int 0, .bool false, .none, .none, .none])).set tr (.inst 1 [.ref nid, .int (cnt + 1)]) := by
      simp only [xa5, xa7, xfR, xa9, xa3, xap, xaN, xbO, xao, xan, xbh, List.lookup, sIf, xaP, xai, cIs, xcc, xaW, xch, xaC, List.length, List.getElem?_cons_zero, List.getElem?_cons_succ, beq_self_eq_true, List.set, Option.some.injEq, Prod.mk.injEq, true_and, exists_eq_left', ↓reduceIte, Nat.reduceAdd, Nat.reduceLT, g1, g2, T.ptr, n1, n2]
    obtain ⟨σ', k1, k2⟩ := key
    refine ⟨.none, σ', .N .E ⟨nid, num, b, e, fa, ra, e, 0, false⟩ .E, hrun _ _ _ _ k1 rfl, ⟨⟨cnt + 1, ?_⟩, ⟨?_, trivial, trivial⟩, ?_, ?_⟩, ?_, ?_, ?_, ?_, fun a h1 h2 => ?_⟩
    · rw [k2, xao, if_pos rfl]; rfl
    · show σ'.objs nid = _
      rw [k2, xao, if_neg n1, xao, if_pos rfl]; rfl
    · show (tr :: [nid]).Nodup
      simp [n2]
    · intro a ha
      rw [k2]
      show a < σ1.next
      rw [g4]
      have ha' : a ∈ tr :: [nid] := ha
      simp only [List.mem_cons, List.not_mem_nil, or_false] at ha'
      rcases ha' with rfl | rfl
      · exact h.lt _ (List.mem_cons_self ..)
      · exact hlt
    · show Sh.N .E false .E ∈ LS
      decide +kernel
    · show [It.mk _ _ (b + (0 + 0)) (e + (0 + 0))] = [_]
      rw [show (0 : Int) + 0 = 0 by rfl, Int.add_zero, Int.add_zero]
    · exact ⟨Int.le_refl _, (fun _ h => by cases h), (fun _ h => by cases h), trivial, trivial⟩
    · rw [k2]; exact Nat.le_of_eq g4.symm
    · simp only [List.mem_cons, not_or] at h2
      rw [k2, xao, if_neg h2.2.1, xao, if_neg h2.1, g3 a h2.1 h2.2.1]
  | N l x r =>
    have hne : T.N l x r ≠ .E := by intro q; cases q
    have hmid : xpT [some (.ref tr), some (.ref nid), none, none, none] σ1 = xa5 (xcB xm2 xoD) xoV [some (.ref tr), some (.ref nid), some (T.N l x r).ptr, some .none, some (.bool false)] σ1 := by
      unfold xpT
      refine xav (σ1 := σ1) (fr1 := [some (.ref tr), some (.ref nid), some (T.N l x r).ptr, none, none]) ?_ (xav (σ1 := σ1) rfl (xav (σ1 := σ1) rfl rfl))
      simp only [xak, xa9, xa3, xap, xaN, xbh, List.lookup, List.getElem?_cons_zero, beq_self_eq_true, List.set, g2]
    have hif : (sIf (xaP (xa9 xbh (xa3 0)) (xai cIs xaW)) (xa5 (xa7 xan (xa3 1) (xch false)) (xa5 (xa7 xbh (xa3 0) (xa3 1)) (xa5 xfR xaC))) xaC) [some (.ref tr), some (.ref nid), none, none, none] σ1 = some ((.next, [some (.ref tr), some (.ref nid), none, none, none]), σ1) := by
      simp only [xa5, xa7, xfR, xa9, xa3, xap, xaN, xbO, xan, xbh, List.lookup, sIf, xaP, xai, cIs, xcc, xaW, xch, xaC, List.getElem?_cons_zero, List.getElem?_cons_succ, beq_self_eq_true, Bool.false_eq_true, ↓reduceIte, g2, T.ptr]
    have hz : Sub σ1 .none ((T.N l x r).addOff 0) := by
      show Sub σ1 .none (.N l { x with off := x.off + 0 } r)
      rw [Int.add_zero]; exact hsub1
    obtain ⟨Y, lp, rp, pp, il, σ2, f1, f2, f3, f4, f5, f6⟩ := xsh (tr := tr) (nid := nid) (nd := ⟨nid, num, b, e, fa, ra, e, 0, true⟩) rfl rfl rfl (T.N l x r) 0 .none .none (some (.bool false)) σ1 hne hz (List.nodup_cons.mp h.nodup).2 hnt g1
    have hYt : Y.id ≠ tr := fun q => htt (q ▸ f4)
    have hYn : Y.id ≠ nid := fun q => hnt (q ▸ f4)
    have hnY := Ne.symm hYn
    have y5 : σ2.objs Y.id = .inst 0 [Y.num, .int Y.b, .int Y.e, Y.fa, Y.ra, .int Y.lim, .int Y.off, .bool Y.red, lp, rp, pp] := f5
    have n5 : σ2.objs nid = .inst 0 [num, .int b, .int e, fa, ra, .int e, .int 0, .bool red, .none, .none, .none] := by rw [f3 nid hnt]; exact g1
    have hlink : ∃ σ3, xoV [some (.ref tr), some (.ref nid), some .none, some (.ref Y.id), some (.bool il)] σ2 = xa5 (xb1 (xad xbU (xa1 (xa3 0) (xa1 (xa3 1) xa8)))) xaC [some (.ref tr), some (.ref nid), some .none, some (.ref Y.id), some (.bool il)] σ3 ∧
        σ3.next = σ2.next ∧ (∀ a, a ≠ Y.id → a ≠ nid → σ3.objs a = σ2.objs a) ∧ σ3.objs Y.id = (if il then Y.obj (.ref nid) rp pp else Y.obj lp (.ref nid) pp) ∧ σ3.objs nid = Nd.obj ⟨nid, num, b, e, fa, ra, e, 0, true⟩ .none .none (.ref Y.id) := by
      unfold xoV
      cases il with
      | true =>
        refine ⟨((σ2.set nid (.inst 0 [num, .int b, .int e, fa, ra, .int e, .int 0, .bool red, .none, .none, .ref Y.id])).set Y.id (Y.obj (.ref nid) rp pp)).set nid (Nd.obj ⟨nid, num, b, e, fa, ra, e, 0, true⟩ .none .none (.ref Y.id)), ?_, rfl, fun a h1 h2 => ?_, ?_, if_pos rfl⟩
        · refine xam (σ1 := σ2.set nid (.inst 0 [num, .int b, .int e, fa, ra, .int e, .int 0, .bool red, .none, .none, .ref Y.id])) ?_ (xam (σ1 := (σ2.set nid (.inst 0 [num, .int b, .int e, fa, ra, .int e, .int 0, .bool red, .none, .none, .ref Y.id])).set Y.id (Y.obj (.ref nid) rp pp)) ?_ (xam (σ1 := ((σ2.set nid (.inst 0 [num, .int b, .int e, fa, ra, .int e, .int 0, .bool red, .none, .none, .ref Y.id])).set Y.id (Y.obj (.ref nid) rp pp)).set nid (Nd.obj ⟨nid, num, b, e, fa, ra, e, 0, true⟩ .none .none (.ref Y.id))) ?_ rfl))
          · simp only [xa7, xa3, xap, xbO, xau, List.lookup, List.length, List.getElem?_cons_zero, List.getElem?_cons_succ, beq_self_eq_true, List.set, ↓reduceIte, Nat.reduceAdd, Nat.reduceLT, n5]
          · simp only [xa5, xa7, xa3, xap, xbO, xao, xat, xaf, List.lookup, sIf, xbe, xew, xaC, List.length, List.getElem?_cons_zero, List.getElem?_cons_succ, beq_self_eq_true, List.set, ↓reduceIte, Nat.reduceAdd, Nat.reduceLT, y5, hYn, hnY, Nd.obj]
          · simp only [xa7, xa3, xap, xbO, xao, xan, List.lookup, xch, List.length, List.getElem?_cons_zero, List.getElem?_cons_succ, beq_self_eq_true, List.set, ↓reduceIte, Nat.reduceAdd, Nat.reduceLT, hYn, hnY, Nd.obj]
        · rw [xao, if_neg h2, xao, if_neg h1, xao, if_neg h2]
        · rw [xao, if_neg hYn, xao, if_pos rfl]; rfl
      | false =>
        refine ⟨((σ2.set nid (.inst 0 [num, .int b, .int e, fa, ra, .int e, .int 0, .bool red, .none, .none, .ref Y.id])).set Y.id (Y.obj lp (.ref nid) pp)).set nid (Nd.obj ⟨nid, num, b, e, fa, ra, e, 0, true⟩ .none .none (.ref Y.id)), ?_, rfl, fun a h1 h2 => ?_, ?_, if_pos rfl⟩
        · refine xam (σ1 := σ2.set nid (.inst 0 [num, .int b, .int e, fa, ra, .int e, .int 0, .bool red, .none, .none, .ref Y.id])) ?_ (xam (σ1 := (σ2.set nid (.inst 0 [num, .int b, .int e, fa, ra, .int e, .int 0, .bool red, .none, .none, .ref Y.id])).set Y.id (Y.obj lp (.ref nid) pp)) ?_ (xam (σ1 := ((σ2.set nid (.inst 0 [num, .int b, .int e, fa, ra, .int e, .int 0, .bool red, .none, .none, .ref Y.id])).set Y.id (Y.obj lp (.ref nid) pp)).set nid (Nd.obj ⟨nid, num, b, e, fa, ra, e, 0, true⟩ .none .none (.ref Y.id))) ?_ rfl))
          · simp only [xa7, xa3, xap, xbO, xau, List.lookup, List.length, List.getElem?_cons_zero, List.getElem?_cons_succ, beq_self_eq_true, List.set, ↓reduceIte, Nat.reduceAdd, Nat.reduceLT, n5]
          · simp only [xa5, xa7, xa3, xap, xbO, xao, xat, xaf, List.lookup, sIf, xbe, xew, xaC, List.length, List.getElem?_cons_zero, List.getElem?_cons_succ, beq_self_eq_true, List.set, Bool.false_eq_true, ↓reduceIte, Nat.reduceAdd, Nat.reduceLT, y5, hYn, hnY, Nd.obj]
          · simp only [xa7, xa3, xap, xbO, xao, xan, List.lookup, xch, List.length, List.getElem?_cons_zero, List.getElem?_cons_succ, beq_self_eq_true, List.set, ↓reduceIte, Nat.reduceAdd, Nat.reduceLT, hYn, hnY, Nd.obj]
        · rw [xao, if_neg h2, xao, if_neg h1, xao, if_neg h2]
        · rw [xao, if_neg hYn, xao, if_pos rfl]; rfl
    obtain ⟨σ3, l1, l2, l3, l4, l5⟩ := hlink
    obtain ⟨s1, s2⟩ := f6 σ3 l3 l4 l5
    have hids : ∀ a, a ∈ (xhA ⟨nid, num, b, e, fa, ra, e, 0, true⟩ 0 (T.N l x r)).ids → a = nid ∨ a ∈ (T.N l x r).ids := fun a ha => xqV.mp ha
    have htree : xkn σ3 tr (xhA ⟨nid, num, b, e, fa, ra, e, 0, true⟩ 0 (T.N l x r)) := by
      refine ⟨⟨cnt + 1, ?_⟩, s1, List.nodup_cons.mpr ⟨fun q => ?_, xp8 (List.nodup_cons.mp h.nodup).2 hnt⟩, fun a ha => ?_⟩
      · rw [l3 tr (Ne.symm hYt) n2, f3 tr htt, g2, s2]
      · rcases hids tr q with q | q
        · exact n2 q
        · exact htt q
      · rw [l2, f2, g4]
        rcases List.mem_cons.mp ha with q | q
        · rw [q]; exact h.lt _ (List.mem_cons_self ..)
        · rcases hids a q with q | q
          · rw [q]; exact hlt
          · exact h.lt _ (List.mem_cons_of_mem _ q)
    have hpos := xfj b 0 (T.N l x r)
    obtain ⟨p, σ4, t', c1, c2, c3, c4, c5, c6⟩ := xng (s := (T.N l x r).shape) (k := xd8 b 0 (T.N l x r)) (id := nid) htree (xnt rfl rfl 0 hub) hs (by show 1 ≤ l.shape.size + 1 + r.shape.size; omega) h5 hpos (xi1 rfl 0 _) (xsc (nd := ⟨nid, num, b, e, fa, ra, e, 0, true⟩) 0 _)
    refine ⟨.none, σ4, t', hrun .none σ4 .next [some (.ref tr), some (.ref nid), some .none, some (.ref Y.id), some (.bool il)] (xav hif ?_) rfl, c2, c3, ?_, c5, ?_⟩
    · rw [hmid]
      refine xav f1 ?_
      rw [l1]
      exact xav (xbx (vs := [.ref tr, .ref nid]) (σ0 := σ3) rfl c1) rfl
    · rw [c4]
      exact xi2 rfl 0 _ hso
    · refine ⟨?_, fun a h1 h2 => ?_⟩
      · have := c6.next
        rw [l2, f2, g4] at this
        exact this
      · simp only [List.mem_cons, not_or] at h2
        have ha : a ∉ tr :: (xhA ⟨nid, num, b, e, fa, ra, e, 0, true⟩ 0 (T.N l x r)).ids := fun q => by
          rcases List.mem_cons.mp q with q | q
          · exact h2.2.1 q
          · rcases hids a q with q | q
            · exact h2.1 q
            · exact h2.2.2 q
        rw [c6.old a (by rw [l2, f2, g4]; exact h1) ha, l3 a (fun q => h2.2.2 (q ▸ f4)) h2.1, f3 a h2.2.2, g3 a h2.1 h2.2.1]
end
section
open PySem
theorem xgE (c : xa6 → M Bool) (b : xa6 → M (FR × xa6)) (fr : xa6) (σ : St) : xcB c b fr σ = bnd (c fr σ) fun t σ1 => if t then bnd (b fr σ1) fun x σ2 => (match x.1 with | .next => xcB c b x.2 σ2 | .ret v => some ((.ret v, x.2), σ2)) else some ((.next, fr), σ1) := by
  cases hc : c fr σ with
  | none =>
    show xcB c b fr σ = none
    cases h : xcB c b fr σ with
    | none => rfl
    | some r =>
      obtain ⟨n, hn⟩ := xfk h
      cases n with
      | zero => cases hn
      | succ n =>
        have : bnd (c fr σ) _ = some r := hn
        rw [hc] at this; cases this
  | some p =>
    obtain ⟨t, σ1⟩ := p
    show xcB c b fr σ = if t = true then _ else _
    cases t with
    | false => exact xfi hc
    | true =>
      show xcB c b fr σ = bnd (b fr σ1) _
      cases hb : b fr σ1 with
      | none =>
        show xcB c b fr σ = none
        cases h : xcB c b fr σ with
        | none => rfl
        | some r =>
          obtain ⟨n, hn⟩ := xfk h
          cases n with
          | zero => cases hn
          | succ n =>
            have : bnd (c fr σ) _ = some r := hn
            rw [hc] at this
            have : bnd (b fr σ1) _ = some r := this
            rw [hb] at this; cases this
      | some q =>
        obtain ⟨⟨f, fr2⟩, σ2⟩ := q
        cases f with
        | ret v => exact xg4 hc hb
        | next =>
          show xcB c b fr σ = xcB c b fr2 σ2
          cases h2 : xcB c b fr2 σ2 with
          | some r => exact xd3 hc hb h2
          | none =>
            cases h : xcB c b fr σ with
            | none => rfl
            | some r =>
              obtain ⟨n, hn⟩ := xfk h
              cases n with
              | zero => cases hn
              | succ n =>
                have : bnd (c fr σ) _ = some r := hn
                rw [hc] at this
                have : bnd (b fr σ1) _ = some r := this
                rw [hb] at this
                have h3 := xiO (show xeq c b n fr2 σ2 = some r from this)
                rw [h2] at h3; cases h3
theorem xkv {a b i : Nat} {fr : xa6} {σ : St} {vs : List PV} {v : PV} (h1 : fr[a]? = some (some (.ref i))) (h2 : fr[b]? = some (some v)) (h3 : σ.objs i = .list vs) (h4 : vs.length < 1000) :
    xb1 (xcs isL xco (xa3 a) (xa3 b)) fr σ = some ((.next, fr), σ.set i (.list (vs ++ [v]))) := by
  unfold xb1 xcs xa3
  rw [h1, h2]
  simp only [xap, isL, h3, xco, ↓reduceIte, h4]
theorem xho {a i : Nat} {fr : xa6} {σ : St} {vs : List PV} (h1 : fr[a]? = some (some (.ref i))) (h3 : σ.objs i = .list vs) : xaP (xad xgx (xa1 (xa3 a) xa8)) (xai cGt (xaK 0)) fr σ = some (decide (0 < vs.length), σ) := by
  unfold xaP xad xa1 xa3
  rw [h1]
  simp only [xap, xa8, xgx, h3, xai, xaK, cGt, xg3]
  congr 2
  simp
theorem xpr {a k i : Nat} {fr : xa6} {σ : St} {vs : List PV} {v : PV} (h1 : fr[a]? = some (some (.ref i))) (h3 : σ.objs i = .list (vs ++ [v])) : xak k (xjp isL xrB (xa3 a)) fr σ = some ((.next, fr.set k (some v)), σ.set i (.list vs)) := by
  unfold xak xjp xa3
  rw [h1]
  simp only [xap, isL, h3, xrB, ↓reduceIte, List.getLast?_concat, List.dropLast_concat]
noncomputable def xkx : xa6 → M (FR × xa6) := (sIf (xaP (xa9 xaA (xa3 5)) (xai cLt (xa3 1))) (xa5 (xak 5 xaW)
    xaC) (xa5 (xb1 (xcs isL xco (xa3 4) (xa3 5)))
    (xa5 (xak 5 (xa9 xat (xa3 5)))
    xaC)))
noncomputable def xs6 : xa6 → M (FR × xa6) := xcB (xaP (xa3 5) (xai xbc xaW)) (xa5 (xb1 (xad xba (xa1 (xa3 5) xa8))) (xa5 xkx xaC))
noncomputable def xhV : xa6 → M (FR × xa6) := (xa5 (sIf (xcK (xaP (xa9 xal (xa3 5)) (xai cLe (xa3 2))) (xcK (xaP (xa9 xaI (xa3 5)) (xai cGe (xa3 1))) xbV)) (xa5 (xb1 (xcs isL xco (xa3 3) (xa3 5)))
    xaC) xaC)
    (xa5 (xak 5 (eIf (xaP (xa9 xal (xa3 5)) (xai cLe (xa3 2))) (xa9 xaf (xa3 5)) xaW))
    xaC))
noncomputable def xmE : xa6 → M (FR × xa6) := (sIf (xaP (xad xgx (xa1 (xa3 4) xa8)) (xai cGt (xaK 0))) (xa5 (xak 5 (xjp isL xrB (xa3 4))) xhV) xaC)
noncomputable def xpK : xa6 → M Bool := (tOr (xaP (xa3 5) (xai xbc xaW)) (tOr (xaP (xad xgx (xa1 (xa3 4) xa8)) (xai cGt (xaK 0))) xkC))
noncomputable def xoR : xa6 → M (FR × xa6) := xa5 xs6 (xa5 xmE xaC)
noncomputable def xhC : xa6 → M (FR × xa6) := xcB xpK xoR
theorem xrh : xcZ = xa5 (xak 3 (xc8 xa8)) (xa5 (xak 4 (xc8 xa8)) (xa5 (xak 5 (xa9 xbh (xa3 0))) (xa5 xhC (xa5 (xcA (xa3 3)) xaC)))) := rfl
def nbT (b e : Int) : Int → T → T
  | _, .E => .E
  | c, .N l x r => if x.lim + (x.off + c) < b then .N (l.addOff (x.off + c)) { x with b := x.b + (x.off + c), e := x.e + (x.off + c), lim := x.lim + (x.off + c), off := 0 } (r.addOff (x.off + c))
    else .N (nbT b e (x.off + c) l) { x with b := x.b + (x.off + c), e := x.e + (x.off + c), lim := x.lim + (x.off + c), off := 0 } (if x.b + (x.off + c) ≤ e then nbT b e (x.off + c) r else r.addOff (x.off + c))
def nbI (b e : Int) : Int → T → List It
  | _, .E => []
  | c, .N l x r => if x.lim + (x.off + c) < b then [] else
    nbI b e (x.off + c) l ++ ((if x.b + (x.off + c) ≤ e ∧ b ≤ x.e + (x.off + c) then [⟨x.id, x.num, x.b + (x.off + c), x.e + (x.off + c)⟩] else []) ++ (if x.b + (x.off + c) ≤ e then nbI b e (x.off + c) r else []))
def nbP (b e : Int) (it : It) : Bool := decide (it.b ≤ e) && decide (b ≤ it.e)
theorem xeT (b e : Int) : ∀ (c : Int) (t : T), (nbT b e c t).ids = t.ids ∧ (nbT b e c t).ptr = t.ptr ∧ (nbT b e c t).shape = t.shape ∧ (nbT b e c t).inord 0 = t.inord c ∧ (t.UB → (nbT b e c t).UB) ∧ (nbT b e c t).top = t.top.map (· + c)
  | _, .E => ⟨rfl, rfl, rfl, rfl, fun h => h, rfl⟩
  | c, .N l x r => by
    obtain ⟨a1, a2, a3, a4, a5, a6⟩ := xeT b e (x.off + c) l
    obtain ⟨b1, b2, b3, b4, b5, b6⟩ := xeT b e (x.off + c) r
    have ht : ∀ (l' r' : T), (T.N l' { x with b := x.b + (x.off + c), e := x.e + (x.off + c), lim := x.lim + (x.off + c), off := 0 } r').top = (T.N l x r).top.map (· + c) := fun l' r' => by
      show some _ = some _; congr 1; show x.lim + (x.off + c) + 0 = x.lim + x.off + c; omega
    have key : ∀ (l' r' : T), l'.ids = l.ids → r'.ids = r.ids → l'.shape = l.shape → r'.shape = r.shape → l'.inord 0 = l.inord (x.off + c) → r'.inord 0 = r.inord (x.off + c) → (l.UB → l'.UB) → (r.UB → r'.UB) → l'.top = l.top.map (· + (x.off + c)) → r'.top = r.top.map (· + (x.off + c)) →
        (T.N l' { x with b := x.b + (x.off + c), e := x.e + (x.off + c), lim := x.lim + (x.off + c), off := 0 } r').ids = (T.N l x r).ids ∧ (T.N l' { x with b := x.b + (x.off + c), e := x.e + (x.off + c), lim := x.lim + (x.off + c), off := 0 } r').ptr = (T.N l x r).ptr ∧ (T.N l' { x with b := x.b + (x.off + c), e := x.e + (x.off + c), lim := x.lim + (x.off + c), off := 0 } r').shape = (T.N l x r).shape ∧
        (T.N l' { x with b := x.b + (x.off + c), e := x.e + (x.off + c), lim := x.lim + (x.off + c), off := 0 } r').inord 0 = (T.N l x r).inord c ∧ ((T.N l x r).UB → (T.N l' { x with b := x.b + (x.off + c), e := x.e + (x.off + c), lim := x.lim + (x.off + c), off := 0 } r').UB) := by
      intro l' r' k1 k2 k3 k4 k5 k6 k7 k8 k9 k10
      refine ⟨by rw [xbb, xbb, k1, k2], rfl, by show Sh.N l'.shape _ r'.shape = Sh.N l.shape _ r.shape; rw [k3, k4], ?_, fun ⟨u1, u2, u3, u4, u5⟩ => ⟨?_, ?_, ?_, k7 u4, k8 u5⟩⟩
      · show l'.inord (0 + 0) ++ ⟨x.id, x.num, x.b + (x.off + c) + (0 + 0), x.e + (x.off + c) + (0 + 0)⟩ :: r'.inord (0 + 0) = l.inord (c + x.off) ++ ⟨x.id, x.num, x.b + (c + x.off), x.e + (c + x.off)⟩ :: r.inord (c + x.off)
        rw [show (0 : Int) + 0 = 0 by rfl, k5, k6, Int.add_zero, Int.add_zero, show c + x.off = x.off + c by omega]
      · show x.e + (x.off + c) ≤ x.lim + (x.off + c); omega
      · intro m hm; rw [k9] at hm; obtain ⟨m', hm', rfl⟩ := Option.map_eq_some_iff.mp hm; have := u2 m' hm'; show m' + _ ≤ x.lim + (x.off + c); omega
      · intro m hm; rw [k10] at hm; obtain ⟨m', hm', rfl⟩ := Option.map_eq_some_iff.mp hm; have := u3 m' hm'; show m' + _ ≤ x.lim + (x.off + c); omega
    have ao : ∀ t : T, (t.addOff (x.off + c)).inord 0 = t.inord (x.off + c) := fun t => by rw [xdh, Int.zero_add]
    unfold nbT
    split
    · obtain ⟨k1, k2, k3, k4, k5⟩ := key (l.addOff (x.off + c)) (r.addOff (x.off + c)) (xb3 _ _) (xb3 _ _) (xcC _ _) (xcC _ _) (ao l) (ao r) xdv xdv (xdi _ _) (xdi _ _)
      exact ⟨k1, k2, k3, k4, k5, ht _ _⟩
    · split
      · obtain ⟨k1, k2, k3, k4, k5⟩ := key (nbT b e (x.off + c) l) (nbT b e (x.off + c) r) a1 b1 a3 b3 a4 b4 a5 b5 a6 b6
        exact ⟨k1, k2, k3, k4, k5, ht _ _⟩
      · obtain ⟨k1, k2, k3, k4, k5⟩ := key (nbT b e (x.off + c) l) (r.addOff (x.off + c)) a1 (xb3 _ _) a3 (xcC _ _) a4 (ao r) a5 xdv a6 (xdi _ _)
        exact ⟨k1, k2, k3, k4, k5, ht _ _⟩
theorem xom : ∀ {t : T} {c m : Int}, t.UB → t.top = some m → ∀ it ∈ t.inord c, it.e ≤ m + c
  | .N l x r, c, m, ⟨u1, u2, u3, u4, u5⟩, h, it, hit => by
    cases h
    have hit' : it ∈ l.inord (c + x.off) ++ ⟨x.id, x.num, x.b + (c + x.off), x.e + (c + x.off)⟩ :: r.inord (c + x.off) := hit
    have sub : ∀ t : T, t.UB → (∀ m, t.top = some m → m ≤ x.lim) → it ∈ t.inord (c + x.off) → (∀ m, t.top = some m → it.e ≤ m + (c + x.off)) → it.e ≤ x.lim + x.off + c := by
      intro t ht htop hi hall
      cases q : t.top with
      | none => cases t with | E => cases hi | N _ _ _ => cases q
      | some m => have := htop m q; have := hall m q; omega
    rcases List.mem_append.mp hit' with q | q
    · exact sub l u4 u2 q fun m hm => xom u4 hm it q
    · rcases List.mem_cons.mp q with q | q
      · rw [q]; show x.e + (c + x.off) ≤ _; omega
      · exact sub r u5 u3 q fun m hm => xom u5 hm it q
theorem xi5 (b e : Int) : ∀ {t : T} {c : Int}, t.UB → xgh (t.inord c) → nbI b e c t = (t.inord c).filter (nbP b e)
  | .E, _, _, _ => rfl
  | .N l x r, c, hu, hs => by
    have hall := xom hu (c := c) rfl
    obtain ⟨u1, u2, u3, u4, u5⟩ := hu
    have hs' : xgh (l.inord (c + x.off) ++ ⟨x.id, x.num, x.b + (c + x.off), x.e + (c + x.off)⟩ :: r.inord (c + x.off)) := hs
    have hp := List.pairwise_append.mp hs'
    have hp2 := List.pairwise_cons.mp hp.2.1
    have e1 : c + x.off = x.off + c := by omega
    unfold nbI
    split
    · rename_i hlt
      symm
      rw [List.filter_eq_nil_iff]
      intro it hit
      have := hall it hit
      unfold nbP
      simp only [Bool.and_eq_true, decide_eq_true_eq, not_and, Int.not_le]
      intro _
      omega
    · show _ = List.filter _ (l.inord (c + x.off) ++ ⟨x.id, x.num, x.b + (c + x.off), x.e + (c + x.off)⟩ :: r.inord (c + x.off))
      rw [List.filter_append, List.filter_cons, e1]
      rw [e1] at hp hp2
      rw [xi5 b e u4 hp.1]
      congr 1
      have hr : (if x.b + (x.off + c) ≤ e then nbI b e (x.off + c) r else []) = (r.inord (x.off + c)).filter (nbP b e) := by
        split
        · exact xi5 b e u5 hp2.2
        · rename_i hgt
          symm
          rw [List.filter_eq_nil_iff]
          intro it hit
          have := hp2.1 it hit
          unfold nbP
          simp only [Bool.and_eq_true, decide_eq_true_eq, not_and, Int.not_le]
          intro h
          have : x.b + (x.off + c) ≤ it.b := this
          omega
      rw [hr]
      unfold nbP
      simp only [Bool.and_eq_true, decide_eq_true_eq]
      split <;> rfl
end
section
open PySem
def nbF (tr fl wl : Nat) (b e : Int) (v : PV) : xa6 := [some (.ref tr), some (.int b), some (.int e), some (.ref fl), some (.ref wl), some v]
noncomputable def nbR (fr : xa6) (σ : St) : Option ((FR × xa6) × St) := bnd (xoR fr σ) fun x σ2 => (match x.1 with | .next => xhC x.2 σ2 | .ret v => some ((.ret v, x.2), σ2))
section
variable {tr fl wl : Nat} {b e : Int}
theorem xnm {v : PV} {σ : St} {ws : List PV} (h : σ.objs wl = .list ws) (hv : v = .none ∨ ∃ i, v = .ref i) : xpK (nbF tr fl wl b e v) σ = some (match v with | .none => decide (0 < ws.length) | _ => true, σ) := by
  have hl := xho (a := 4) (fr := nbF tr fl wl b e v) (σ := σ) rfl h
  unfold xpK
  rcases hv with rfl | ⟨i, rfl⟩
  · show bnd (some (false, σ)) _ = _
    show bnd (xaP (xad xgx (xa1 (xa3 4) xa8)) (xai cGt (xaK 0)) _ σ) _ = _
    rw [hl]
    show (if decide (0 < ws.length) = true then some (true, σ) else some (false, σ)) = _
    cases decide (0 < ws.length) <;> rfl
  · rfl
theorem xtr {i : Nat} {σ : St} {ws : List PV} (h : σ.objs wl = .list ws) : xhC (nbF tr fl wl b e (.ref i)) σ = nbR (nbF tr fl wl b e (.ref i)) σ := by
  unfold xhC
  rw [xgE, xnm h (.inr ⟨i, rfl⟩)]
  rfl
theorem xsX {σ : St} : xs6 (nbF tr fl wl b e .none) σ = some ((.next, nbF tr fl wl b e .none), σ) := xfi rfl
theorem xoh {σ : St} : xoR (nbF tr fl wl b e .none) σ = xa5 xmE xaC (nbF tr fl wl b e .none) σ := xav xsX rfl
theorem xsD {σ : St} {ws : List PV} (h : σ.objs wl = .list ws) : nbR (nbF tr fl wl b e .none) σ = xhC (nbF tr fl wl b e .none) σ := by
  cases ws with
  | cons w ws =>
    unfold xhC
    rw [xgE, xnm h (.inl rfl)]
    rfl
  | nil =>
    have hp : xmE (nbF tr fl wl b e .none) σ = some ((.next, nbF tr fl wl b e .none), σ) := by
      unfold xmE sIf
      rw [xho (a := 4) (fr := nbF tr fl wl b e .none) (σ := σ) rfl h]
      rfl
    unfold nbR
    rw [xoh, xav hp rfl]
    rfl
theorem xta {i : Nat} {v : PV} {σ σ1 σ' : St} (h1 : xba [.ref i] σ = some (.none, σ1)) (h2 : xkx (nbF tr fl wl b e (.ref i)) σ1 = some ((.next, nbF tr fl wl b e v), σ')) : nbR (nbF tr fl wl b e (.ref i)) σ = nbR (nbF tr fl wl b e v) σ' := by
  have hin : xs6 (nbF tr fl wl b e (.ref i)) σ = xs6 (nbF tr fl wl b e v) σ' := by
    unfold xs6
    rw [xgE]
    show bnd (xa5 _ _ _ σ) _ = _
    rw [xam (σ1 := σ1) (xbx (vs := [.ref i]) (σ0 := σ) rfl h1) (xav h2 rfl)]
    rfl
  unfold nbR xoR
  have : xa5 xs6 (xa5 xmE xaC) (nbF tr fl wl b e (.ref i)) σ = xa5 xs6 (xa5 xmE xaC) (nbF tr fl wl b e v) σ' := by
    unfold xa5
    rw [hin]
  rw [this]
theorem xtN {i : Nat} {v : PV} {σ σ' : St} {ws : List PV} (h : σ.objs wl = .list (ws ++ [.ref i])) (h2 : xhV (nbF tr fl wl b e (.ref i)) (σ.set wl (.list ws)) = some ((.next, nbF tr fl wl b e v), σ')) : xhC (nbF tr fl wl b e .none) σ = xhC (nbF tr fl wl b e v) σ' := by
  rw [← xsD h]
  have hp : xmE (nbF tr fl wl b e .none) σ = some ((.next, nbF tr fl wl b e v), σ') := by
    unfold xmE sIf
    rw [xho (a := 4) (fr := nbF tr fl wl b e .none) (σ := σ) rfl h]
    show (if decide (0 < (ws ++ [PV.ref i]).length) = true then _ else _) = _
    rw [if_pos (by simp)]
    exact xav (xpr (a := 4) (k := 5) rfl h) h2
  unfold nbR
  rw [xoh, xav hp rfl]
  rfl
structure xsQ (b e : Int) (fl wl : Nat) (t : T) (c : Int) (p : PV) (F ws : List PV) (σ σ' : St) : Prop where
  next : σ'.next = σ.next
  sub : Sub σ' p (nbT b e c t)
  found : σ'.objs fl = .list (F ++ (nbI b e c t).map (fun it => .ref it.id))
  wait : σ'.objs wl = .list ws
  old : ∀ a, a ∉ t.ids → a ≠ fl → a ≠ wl → σ'.objs a = σ.objs a
  raw : ∀ it ∈ nbI b e c t, it.id ∈ t.ids ∧ ∃ w3 w4 w5 w6 w7 w8 w9 w10, σ'.objs it.id = .inst 0 [it.num, .int it.b, .int it.e, w3, w4, w5, w6, w7, w8, w9, w10]
theorem xp4 (b e c : Int) (l r : T) (x : Nd) : nbI b e c (.N l x r) = if x.lim + (x.off + c) < b then [] else
    nbI b e (x.off + c) l ++ ((if x.b + (x.off + c) ≤ e ∧ b ≤ x.e + (x.off + c) then [⟨x.id, x.num, x.b + (x.off + c), x.e + (x.off + c)⟩] else []) ++ (if x.b + (x.off + c) ≤ e then nbI b e (x.off + c) r else [])) := rfl
theorem xsI (hfw : fl ≠ wl) : ∀ (t : T) (c : Int) (p : PV) (σ : St) (F ws : List PV), Sub σ p (t.addOff c) → t.ids.Nodup → fl ∉ t.ids → wl ∉ t.ids → σ.objs fl = .list F → σ.objs wl = .list ws → F.length + t.nodes.length ≤ 900 → ws.length + t.nodes.length ≤ 900 →
    ∃ σ', xsQ b e fl wl t c p F ws σ σ' ∧ xhC (nbF tr fl wl b e t.ptr) σ = xhC (nbF tr fl wl b e .none) σ' := by
  intro t
  induction t with
  | E =>
    intro c p σ F ws hs hn h1 h2 hF hw z1 z2
    exact ⟨σ, ⟨rfl, trivial, by simpa [nbI] using hF, hw, fun _ _ _ _ => rfl, fun it h => by cases h⟩, rfl⟩
  | N l x r ihl ihr =>
    intro c p σ F ws hs hn hfl hwl hF hw z1 z2
    have hs' : Sub σ p (.N l { x with off := x.off + c } r) := hs
    have hnn : (T.N l { x with off := x.off + c } r).ids = (T.N l x r).ids := by rw [xbb, xbb]
    obtain ⟨σ1, e1, e2, ⟨e3, e4, e5⟩, e6⟩ := xoa hs' (hnn ▸ hn)
    rw [hnn] at e6
    have hx : σ1.objs x.id = Nd.obj { x with b := x.b + (x.off + c), e := x.e + (x.off + c), lim := x.lim + (x.off + c), off := 0 } l.ptr r.ptr p := by rw [xbJ, xbJ] at e3; exact e3
    have hx' : σ1.objs x.id = .inst 0 [x.num, .int (x.b + (x.off + c)), .int (x.e + (x.off + c)), x.fa, x.ra, .int (x.lim + (x.off + c)), .int 0, .bool x.red, l.ptr, r.ptr, p] := hx
    have hn' := hn
    rw [xbb] at hn' hfl hwl
    have hd := List.nodup_append.mp hn'
    have hd2 := List.nodup_cons.mp hd.2.1
    simp only [List.mem_append, List.mem_cons, not_or] at hfl hwl
    have hflx : fl ≠ x.id := hfl.2.1
    have hwlx : wl ≠ x.id := hwl.2.1
    have hxfl := Ne.symm hflx
    have hxwl := Ne.symm hwlx
    have hnl : (T.N l x r).nodes.length = l.nodes.length + 1 + r.nodes.length := by show (l.nodes ++ x :: r.nodes).length = _; rw [List.length_append, List.length_cons]; omega
    rw [hnl] at z1 z2
    have hF1 : σ1.objs fl = .list F := by rw [e6 fl (by rw [xbb]; simp only [List.mem_append, List.mem_cons, not_or]; exact hfl)]; exact hF
    have hw1 : σ1.objs wl = .list ws := by rw [e6 wl (by rw [xbb]; simp only [List.mem_append, List.mem_cons, not_or]; exact hwl)]; exact hw
    show ∃ σ', _ ∧ xhC (nbF tr fl wl b e (.ref x.id)) σ = _
    rw [xtr hw]
    by_cases hlim : x.lim + (x.off + c) < b
    · have hstep : xkx (nbF tr fl wl b e (.ref x.id)) σ1 = some ((.next, nbF tr fl wl b e .none), σ1) := by
        unfold xkx nbF
        simp only [xa5, xak, xb1, xa9, xa3, xap, xaN, xaA, xat, List.lookup, sIf, xaP, xai, xg3, cLt, xaW, xaC, List.getElem?_cons_zero, List.getElem?_cons_succ, beq_self_eq_true, List.set, ↓reduceIte, decide_true, hx', hlim]
      rw [xta e1 hstep, xsD hw1]
      refine ⟨σ1, ⟨e2, ?_, ?_, hw1, fun a ha _ _ => e6 a ha, fun it hit => ?_⟩, rfl⟩
      · unfold nbT; rw [if_pos hlim]; exact ⟨by rw [xbJ, xbJ]; exact hx, e4, e5⟩
      · rw [xp4, if_pos hlim]; simpa using hF1
      · rw [xp4, if_pos hlim] at hit; cases hit
    · have hw2len : ws.length < 1000 := by omega
      have hstep : xkx (nbF tr fl wl b e (.ref x.id)) σ1 = some ((.next, nbF tr fl wl b e l.ptr), σ1.set wl (.list (ws ++ [.ref x.id]))) := by
        have ha := xkv (a := 4) (b := 5) (fr := nbF tr fl wl b e (.ref x.id)) (σ := σ1) rfl rfl hw1 hw2len
        have hxw : (σ1.set wl (.list (ws ++ [.ref x.id]))).objs x.id = .inst 0 [x.num, .int (x.b + (x.off + c)), .int (x.e + (x.off + c)), x.fa, x.ra, .int (x.lim + (x.off + c)), .int 0, .bool x.red, l.ptr, r.ptr, p] := by rw [xao, if_neg (Ne.symm hwlx)]; exact hx'
        have ht : xaP (xa9 xaA (xa3 5)) (xai cLt (xa3 1)) (nbF tr fl wl b e (.ref x.id)) σ1 = some (false, σ1) := by
          unfold nbF
          simp only [xa9, xa3, xap, xaN, xaA, List.lookup, xaP, xai, xg3, cLt, List.getElem?_cons_zero, List.getElem?_cons_succ, beq_self_eq_true, decide_false, hx', hlim]
        unfold xkx sIf
        rw [ht]
        refine xam ha ?_
        refine xav (σ1 := σ1.set wl (.list (ws ++ [.ref x.id]))) (fr1 := nbF tr fl wl b e l.ptr) ?_ rfl
        unfold nbF
        simp only [xak, xa9, xa3, xap, xaN, xao, xat, List.lookup, List.getElem?_cons_zero, List.getElem?_cons_succ, beq_self_eq_true, List.set, ↓reduceIte, hx', hxwl]
      generalize hσ2 : σ1.set wl (.list (ws ++ [.ref x.id])) = σ2 at hstep
      have w2 : σ2.objs wl = .list (ws ++ [.ref x.id]) := by rw [← hσ2]; exact if_pos rfl
      have o2 : ∀ a, a ≠ wl → σ2.objs a = σ1.objs a := fun a ha => by rw [← hσ2]; exact if_neg ha
      have n2 : σ2.next = σ1.next := by rw [← hσ2]; rfl
      have hF2 : σ2.objs fl = .list F := (o2 fl hfw).trans hF1
      rw [xta e1 hstep]
      have hRl : nbR (nbF tr fl wl b e l.ptr) σ2 = xhC (nbF tr fl wl b e l.ptr) σ2 := by
        cases l with
        | E => exact xsD w2
        | N _ y _ => exact (xtr w2).symm
      rw [hRl]
      obtain ⟨σ3, P3, E3⟩ := ihl (x.off + c) (.ref x.id) σ2 F (ws ++ [.ref x.id]) (Sub.of (fun a ha => by rw [xb3] at ha; exact o2 a (fun q => hwl.1 (q ▸ ha))) e4) hd.1 hfl.1 hwl.1 hF2 w2 (by omega) (by rw [List.length_append, List.length_singleton]; omega)
      rw [E3]
      have x3 : σ3.objs x.id = .inst 0 [x.num, .int (x.b + (x.off + c)), .int (x.e + (x.off + c)), x.fa, x.ra, .int (x.lim + (x.off + c)), .int 0, .bool x.red, l.ptr, r.ptr, p] := by
        rw [P3.old x.id (fun q => hd.2.2 _ q _ (List.mem_cons_self ..) rfl) (Ne.symm hflx) (Ne.symm hwlx), o2 _ (Ne.symm hwlx)]; exact hx'
      generalize hσ4 : σ3.set wl (.list ws) = σ4
      have w4 : σ4.objs wl = .list ws := by rw [← hσ4]; exact if_pos rfl
      have o4 : ∀ a, a ≠ wl → σ4.objs a = σ3.objs a := fun a ha => by rw [← hσ4]; exact if_neg ha
      have n4 : σ4.next = σ3.next := by rw [← hσ4]; rfl
      have x4 := (o4 x.id (Ne.symm hwlx)).trans x3
      have f4 : σ4.objs fl = .list (F ++ (nbI b e (x.off + c) l).map (fun it => .ref it.id)) := (o4 fl hfw).trans P3.found
      have hvis : ∃ σ5, xhV (nbF tr fl wl b e (.ref x.id)) σ4 = some ((.next, nbF tr fl wl b e (if x.b + (x.off + c) ≤ e then r.ptr else .none)), σ5) ∧ σ5.next = σ4.next ∧ (∀ a, a ≠ fl → σ5.objs a = σ4.objs a) ∧
          σ5.objs fl = .list (F ++ ((nbI b e (x.off + c) l) ++ (if x.b + (x.off + c) ≤ e ∧ b ≤ x.e + (x.off + c) then [It.mk x.id x.num (x.b + (x.off + c)) (x.e + (x.off + c))] else [])).map (fun it : It => PV.ref it.id)) := by
        have hlen : (nbI b e (x.off + c) l).length ≤ l.nodes.length := by
          have : ∀ (t : T) (c : Int), (nbI b e c t).length ≤ t.nodes.length := by
            intro t
            induction t with
            | E => intro c; exact Nat.le_refl _
            | N l x r i1 i2 =>
              intro c
              have j1 := i1 (x.off + c)
              have j2 := i2 (x.off + c)
              have j3 : (T.N l x r).nodes.length = l.nodes.length + 1 + r.nodes.length := by show (l.nodes ++ x :: r.nodes).length = _; rw [List.length_append, List.length_cons]; omega
              rw [j3]
              unfold nbI
              split
              · exact Nat.zero_le _
              · rw [List.length_append, List.length_append]
                split <;> split <;> simp <;> omega
          exact this l _
        by_cases h1 : x.b + (x.off + c) ≤ e
        · by_cases h2 : b ≤ x.e + (x.off + c)
          · have ht : (xcK (xaP (xa9 xal (xa3 5)) (xai cLe (xa3 2))) (xcK (xaP (xa9 xaI (xa3 5)) (xai cGe (xa3 1))) xbV)) (nbF tr fl wl b e (.ref x.id)) σ4 = some (true, σ4) := by
              unfold nbF
              simp only [xa9, xa3, xap, xaN, xal, xaI, List.lookup, xaP, xcK, xbV, xai, xg3, cLe, cGe, List.getElem?_cons_zero, List.getElem?_cons_succ, beq_self_eq_true, ↓reduceIte, decide_true, x4, h1, h2]
            have ha := xkv (a := 3) (b := 5) (fr := nbF tr fl wl b e (.ref x.id)) (σ := σ4) rfl rfl f4 (by rw [List.length_append, List.length_map]; omega)
            have x5 : (σ4.set fl (.list (F ++ (nbI b e (x.off + c) l).map (fun it => PV.ref it.id) ++ [.ref x.id]))).objs x.id = .inst 0 [x.num, .int (x.b + (x.off + c)), .int (x.e + (x.off + c)), x.fa, x.ra, .int (x.lim + (x.off + c)), .int 0, .bool x.red, l.ptr, r.ptr, p] := by rw [xao, if_neg (Ne.symm hflx)]; exact x4
            refine ⟨σ4.set fl (.list (F ++ (nbI b e (x.off + c) l).map (fun it => PV.ref it.id) ++ [.ref x.id])), ?_, rfl, fun a ha => if_neg ha, ?_⟩
            rotate_left
            · rw [if_pos ⟨h1, h2⟩]
              refine (if_pos rfl).trans ?_
              rw [List.map_append, ← List.append_assoc]; rfl
            · unfold xhV
              refine xam (σ1 := σ4.set fl (.list (F ++ (nbI b e (x.off + c) l).map (fun it => PV.ref it.id) ++ [.ref x.id]))) ?_ (xav (fr1 := nbF tr fl wl b e (if x.b + (x.off + c) ≤ e then r.ptr else .none)) ?_ rfl)
              · unfold sIf
                rw [ht]
                exact xam ha rfl
              · unfold nbF
                simp only [xak, xa9, xa3, xap, eIf, xaN, xao, xal, xaf, List.lookup, xaP, xai, xg3, cLe, xaW, List.getElem?_cons_zero, List.getElem?_cons_succ, beq_self_eq_true, List.set, ↓reduceIte, decide_true, x4, h1, hxfl]
          · have ht : (xcK (xaP (xa9 xal (xa3 5)) (xai cLe (xa3 2))) (xcK (xaP (xa9 xaI (xa3 5)) (xai cGe (xa3 1))) xbV)) (nbF tr fl wl b e (.ref x.id)) σ4 = some (false, σ4) := by
              unfold nbF
              simp only [xa9, xa3, xap, xaN, xal, xaI, List.lookup, xaP, xcK, xbV, xai, xg3, cLe, cGe, List.getElem?_cons_zero, List.getElem?_cons_succ, beq_self_eq_true, Bool.false_eq_true, ↓reduceIte, decide_true, decide_false, x4, h1, h2]
            refine ⟨σ4, ?_, rfl, fun a ha => rfl, ?_⟩
            · unfold xhV
              refine xam (σ1 := σ4) ?_ (xav (fr1 := nbF tr fl wl b e (if x.b + (x.off + c) ≤ e then r.ptr else .none)) ?_ rfl)
              · unfold sIf
                rw [ht]
                rfl
              · unfold nbF
                simp only [xak, xa9, xa3, xap, eIf, xaN, xal, xaf, List.lookup, xaP, xai, xg3, cLe, xaW, List.getElem?_cons_zero, List.getElem?_cons_succ, beq_self_eq_true, List.set, ↓reduceIte, decide_true, x4, h1]
            · rw [if_neg (fun q => h2 q.2), List.append_nil]; exact f4
        · have ht : (xcK (xaP (xa9 xal (xa3 5)) (xai cLe (xa3 2))) (xcK (xaP (xa9 xaI (xa3 5)) (xai cGe (xa3 1))) xbV)) (nbF tr fl wl b e (.ref x.id)) σ4 = some (false, σ4) := by
            unfold nbF
            simp only [xa9, xa3, xap, xaN, xal, xaI, List.lookup, xaP, xcK, xbV, xai, xg3, cLe, cGe, List.getElem?_cons_zero, List.getElem?_cons_succ, beq_self_eq_true, Bool.false_eq_true, ↓reduceIte, decide_false, x4, h1]
          refine ⟨σ4, ?_, rfl, fun a ha => rfl, ?_⟩
          · unfold xhV
            refine xam (σ1 := σ4) ?_ (xav (fr1 := nbF tr fl wl b e (if x.b + (x.off + c) ≤ e then r.ptr else .none)) ?_ rfl)
            · unfold sIf
              rw [ht]
              rfl
            · unfold nbF
              simp only [xak, xa9, xa3, xap, eIf, xaN, xal, xaf, List.lookup, xaP, xai, xg3, cLe, xaW, List.getElem?_cons_zero, List.getElem?_cons_succ, beq_self_eq_true, List.set, Bool.false_eq_true, ↓reduceIte, decide_false, x4, h1]
          · rw [if_neg (fun q => h1 q.1), List.append_nil]; exact f4
      obtain ⟨σ5, v1, v2, v3, v4⟩ := hvis
      have w3 : σ3.objs wl = .list (ws ++ [.ref x.id]) := P3.wait
      rw [xtN w3 (by rw [hσ4]; exact v1)]
      have o5 : ∀ a, a ∉ l.ids → a ≠ fl → a ≠ wl → σ5.objs a = σ1.objs a := fun a h1 h2 h3 => by rw [v3 a h2, o4 a h3, P3.old a h1 h2 h3, o2 a h3]
      have l5 : ∀ a ∈ l.ids, σ5.objs a = σ3.objs a := fun a ha => by rw [v3 a (fun q => hfl.1 (q ▸ ha)), o4 a (fun q => hwl.1 (q ▸ ha))]
      have x5 : σ5.objs x.id = .inst 0 [x.num, .int (x.b + (x.off + c)), .int (x.e + (x.off + c)), x.fa, x.ra, .int (x.lim + (x.off + c)), .int 0, .bool x.red, l.ptr, r.ptr, p] := (v3 _ (Ne.symm hflx)).trans x4
      have r5 : Sub σ5 (.ref x.id) (r.addOff (x.off + c)) := Sub.of (fun a ha => by
        rw [xb3] at ha
        exact o5 a (fun q => hd.2.2 _ q _ (List.mem_cons_of_mem _ ha) rfl) (fun q => hfl.2.2 (q ▸ ha)) (fun q => hwl.2.2 (q ▸ ha))) e5
      have w5 : σ5.objs wl = .list ws := (v3 wl (Ne.symm hfw)).trans w4
      have sl5 : Sub σ5 (.ref x.id) (nbT b e (x.off + c) l) := Sub.of (fun a ha => by rw [(xeT b e _ l).1] at ha; exact l5 a ha) P3.sub
      have hflen : ((nbI b e (x.off + c) l) ++ (if x.b + (x.off + c) ≤ e ∧ b ≤ x.e + (x.off + c) then [It.mk x.id x.num (x.b + (x.off + c)) (x.e + (x.off + c))] else [])).length ≤ l.nodes.length + 1 := by
        have : ∀ (t : T) (c : Int), (nbI b e c t).length ≤ t.nodes.length := by
          intro t
          induction t with
          | E => intro c; exact Nat.le_refl _
          | N l x r i1 i2 =>
            intro c
            have j1 := i1 (x.off + c)
            have j2 := i2 (x.off + c)
            have j3 : (T.N l x r).nodes.length = l.nodes.length + 1 + r.nodes.length := by show (l.nodes ++ x :: r.nodes).length = _; rw [List.length_append, List.length_cons]; omega
            rw [j3]
            unfold nbI
            split
            · exact Nat.zero_le _
            · rw [List.length_append, List.length_append]
              split <;> split <;> simp <;> omega
        have := this l (x.off + c)
        rw [List.length_append]
        split <;> simp <;> omega
      have rawx : ∃ w3 w4 w5 w6 w7 w8 w9 w10, σ5.objs x.id = .inst 0 [x.num, .int (x.b + (x.off + c)), .int (x.e + (x.off + c)), w3, w4, w5, w6, w7, w8, w9, w10] := ⟨_, _, _, _, _, _, _, _, x5⟩
      by_cases h1 : x.b + (x.off + c) ≤ e
      · rw [if_pos h1]
        obtain ⟨σ6, P6, E6⟩ := ihr (x.off + c) (.ref x.id) σ5 _ ws r5 hd2.2 hfl.2.2 hwl.2.2 v4 w5 (by rw [List.length_append, List.length_map]; omega) (by omega)
        rw [E6]
        have x6 : σ6.objs x.id = σ5.objs x.id := P6.old _ hd2.1 (Ne.symm hflx) (Ne.symm hwlx)
        have l6 : ∀ a ∈ l.ids, σ6.objs a = σ3.objs a := fun a ha => by rw [P6.old a (fun q => hd.2.2 _ ha _ (List.mem_cons_of_mem _ q) rfl) (fun q => hfl.1 (q ▸ ha)) (fun q => hwl.1 (q ▸ ha)), l5 a ha]
        refine ⟨σ6, ⟨by rw [P6.next, v2, n4, P3.next, n2, e2], ?_, ?_, P6.wait, fun a ha h2 h3 => ?_, fun it hit => ?_⟩, rfl⟩
        · unfold nbT; rw [if_neg hlim, if_pos h1]
          refine ⟨?_, Sub.of (fun a ha => by rw [(xeT b e _ l).1] at ha; exact l6 a ha) P3.sub, P6.sub⟩
          rw [(xeT b e _ l).2.1, (xeT b e _ r).2.1, x6, x5]; rfl
        · rw [P6.found]
          rw [xp4, if_neg hlim, if_pos h1]
          rw [List.append_assoc, ← List.map_append, List.append_assoc]
        · rw [xbb] at ha
          simp only [List.mem_append, List.mem_cons, not_or] at ha
          rw [P6.old a ha.2.2 h2 h3, o5 a ha.1 h2 h3]
          exact e6 a (by rw [xbb]; simp only [List.mem_append, List.mem_cons, not_or]; exact ha)
        · rw [xp4, if_neg hlim, if_pos h1] at hit
          rw [xbb]
          rcases List.mem_append.mp hit with q | q
          · obtain ⟨m1, w3, w4, w5, w6, w7, w8, w9, w10, m2⟩ := P3.raw it q
            exact ⟨List.mem_append_left _ m1, w3, w4, w5, w6, w7, w8, w9, w10, by rw [l6 _ m1]; exact m2⟩
          · rcases List.mem_append.mp q with q | q
            · split at q
              · rw [List.mem_singleton.mp q]
                obtain ⟨w3, w4, w5, w6, w7, w8, w9, w10, m2⟩ := rawx
                exact ⟨by simp, w3, w4, w5, w6, w7, w8, w9, w10, by show σ6.objs x.id = _; rw [x6]; exact m2⟩
              · cases q
            · obtain ⟨m1, m2⟩ := P6.raw it q
              exact ⟨List.mem_append_right _ (List.mem_cons_of_mem _ m1), m2⟩
      · rw [if_neg h1]
        refine ⟨σ5, ⟨by rw [v2, n4, P3.next, n2, e2], ?_, ?_, w5, fun a ha h2 h3 => ?_, fun it hit => ?_⟩, rfl⟩
        · unfold nbT; rw [if_neg hlim, if_neg h1]
          refine ⟨?_, sl5, r5⟩
          rw [(xeT b e _ l).2.1, xbJ, x5]; rfl
        · rw [v4]
          rw [xp4, if_neg hlim, if_neg h1, List.append_nil]
        · rw [xbb] at ha
          simp only [List.mem_append, List.mem_cons, not_or] at ha
          rw [o5 a ha.1 h2 h3]
          exact e6 a (by rw [xbb]; simp only [List.mem_append, List.mem_cons, not_or]; exact ha)
        · rw [xp4, if_neg hlim, if_neg h1, List.append_nil] at hit
          rw [xbb]
          rcases List.mem_append.mp hit with q | q
          · obtain ⟨m1, w3, w4, w5, w6, w7, w8, w9, w10, m2⟩ := P3.raw it q
            exact ⟨List.mem_append_left _ m1, w3, w4, w5, w6, w7, w8, w9, w10, by rw [l5 _ m1]; exact m2⟩
          · split at q
            · rw [List.mem_singleton.mp q]
              obtain ⟨w3, w4, w5, w6, w7, w8, w9, w10, m2⟩ := rawx
              exact ⟨by simp, w3, w4, w5, w6, w7, w8, w9, w10, m2⟩
            · cases q
end
theorem xs5 {σ : St} {tr : Nat} {t : T} {b e : Int} (h : xkn σ tr t) (hub : t.UB) (hs : t.shape ∈ LS) (hso : xgh (t.inord 0)) :
    ∃ fl σ' t', xb0 [.ref tr, .int b, .int e] σ = some (.ref fl, σ') ∧ xkn σ' tr t' ∧ t'.shape ∈ LS ∧ t'.inord 0 = t.inord 0 ∧ t'.UB ∧ Far σ t.ids σ' ∧ σ.next ≤ fl ∧ fl < σ'.next ∧ fl ∉ t'.ids ∧
      σ'.objs fl = .list (((t.inord 0).filter (nbP b e)).map (fun it => .ref it.id)) ∧ ∀ it ∈ (t.inord 0).filter (nbP b e), ∃ w3 w4 w5 w6 w7 w8 w9 w10, σ'.objs it.id = .inst 0 [it.num, .int it.b, .int it.e, w3, w4, w5, w6, w7, w8, w9, w10] := by
  obtain ⟨cnt, hc⟩ := h.root
  have htlt : tr < σ.next := h.lt _ (List.mem_cons_self ..)
  have hilt : ∀ a ∈ t.ids, a < σ.next := fun a ha => h.lt a (List.mem_cons_of_mem _ ha)
  have hsz : t.nodes.length ≤ 6 := by rw [← T.shape_size]; exact xoc hs
  generalize hσ1 : (σ.push (.list [])).push (.list []) = σ1
  have n1 : σ1.next = σ.next + 2 := by rw [← hσ1]; rfl
  have o1 : ∀ a, a < σ.next → σ1.objs a = σ.objs a := fun a ha => by
    rw [← hσ1]
    show (if a = σ.next + 1 then _ else if a = σ.next then _ else _) = _
    rw [if_neg (by omega), if_neg (by omega)]
  have f1 : σ1.objs σ.next = .list [] := by
    rw [← hσ1]
    show (if σ.next = σ.next + 1 then _ else if σ.next = σ.next then _ else _) = _
    rw [if_neg (by omega), if_pos rfl]
  have w1 : σ1.objs (σ.next + 1) = .list [] := by rw [← hσ1]; exact if_pos rfl
  have hsub1 : Sub σ1 .none (t.addOff 0) := by
    have : t.addOff 0 = t := by cases t with | E => rfl | N l x r => show T.N l { x with off := x.off + 0 } r = _; rw [Int.add_zero]
    rw [this]
    exact Sub.of (fun a ha => o1 a (hilt a ha)) h.sub
  obtain ⟨σ', P, hE⟩ := xsI (tr := tr) (fl := σ.next) (wl := σ.next + 1) (b := b) (e := e) (by omega) t 0 .none σ1 [] [] hsub1 (List.nodup_cons.mp h.nodup).2 (fun q => Nat.lt_irrefl _ (hilt _ q)) (fun q => by have := hilt _ q; omega) f1 w1 (by simp; omega) (by simp; omega)
  have hend : xhC (nbF tr σ.next (σ.next + 1) b e .none) σ' = some ((.next, nbF tr σ.next (σ.next + 1) b e .none), σ') := by
    unfold xhC
    rw [xgE, xnm P.wait (.inl rfl)]
    rfl
  have hc1 : σ1.objs tr = .inst 1 [t.ptr, .int cnt] := (o1 tr htlt).trans hc
  have hrun : xcZ [some (.ref tr), some (.int b), some (.int e), none, none, none] σ = some ((.ret (.ref σ.next), nbF tr σ.next (σ.next + 1) b e .none), σ') := by
    rw [xrh]
    refine xav (σ1 := σ.push (.list [])) (fr1 := [some (.ref tr), some (.int b), some (.int e), some (.ref σ.next), none, none]) rfl (xav (σ1 := σ1) (fr1 := [some (.ref tr), some (.int b), some (.int e), some (.ref σ.next), some (.ref (σ.next + 1)), none]) (by rw [← hσ1]; rfl) (xav (σ1 := σ1) (fr1 := nbF tr σ.next (σ.next + 1) b e t.ptr) ?_ (xav (hE.trans hend) rfl)))
    simp only [xak, xa9, xa3, xap, xaN, xbh, List.lookup, List.getElem?_cons_zero, beq_self_eq_true, List.set, Option.some.injEq, Prod.mk.injEq, true_and, hc1]
    exact ⟨rfl, trivial⟩
  have hk := xeT b e 0 t
  have hfil : nbI b e 0 t = (t.inord 0).filter (nbP b e) := xi5 b e hub hso
  have hnt : ∀ a, σ.next ≤ a → a ∉ t.ids := fun a ha q => by have := hilt a q; omega
  have oldF : ∀ a, a < σ.next → a ∉ t.ids → σ'.objs a = σ.objs a := fun a h1 h2 => by rw [P.old a h2 (by omega) (by omega), o1 a h1]
  refine ⟨σ.next, σ', nbT b e 0 t, ?_, ⟨⟨cnt, ?_⟩, P.sub, by rw [hk.1]; exact h.nodup, fun a ha => ?_⟩, by rw [hk.2.2.1]; exact hs, hk.2.2.2.1, hk.2.2.2.2.1 hub, ⟨by rw [P.next, n1]; omega, fun a h1 h2 => oldF a h1 h2⟩, Nat.le_refl _, by rw [P.next, n1]; omega, by rw [hk.1]; exact hnt _ (Nat.le_refl _), ?_, fun it hit => ?_⟩
  · unfold xb0 xaT
    rw [if_pos (show [PV.ref tr, PV.int b, PV.int e].length = 3 from rfl)]
    show bnd (xcZ [some (.ref tr), some (.int b), some (.int e), none, none, none] σ) _ = _
    rw [hrun]; rfl
  · rw [oldF tr htlt (List.nodup_cons.mp h.nodup).1, hc, hk.2.1]
  · rw [hk.1] at ha
    have := h.lt a ha
    rw [P.next, n1]; omega
  · rw [P.found, hfil]; rfl
  · rw [← hfil] at hit
    exact (P.raw it hit).2
end
section
open PySem
inductive Lm : T → T → Prop
  | E : Lm .E .E
  | N {l l' r r' : T} (x : Nd) (m : Int) : Lm l l' → Lm r r' → Lm (.N l x r) (.N l' { x with lim := m } r')
theorem Lm.refl : ∀ t : T, Lm t t
  | .E => .E
  | .N l x r => Lm.N x x.lim (Lm.refl l) (Lm.refl r)
theorem Lm.trans {a b c : T} (h : Lm a b) (k : Lm b c) : Lm a c := by
  induction h generalizing c with
  | E => exact k
  | N x m _ _ ih1 ih2 =>
    cases k with
    | N _ m' k1 k2 => exact Lm.N x m' (ih1 k1) (ih2 k2)
theorem Lm.keep {t t' : T} (h : Lm t t') : t'.ids = t.ids ∧ t'.ptr = t.ptr ∧ t'.shape = t.shape ∧ ∀ c, t'.inord c = t.inord c := by
  induction h with
  | E => exact ⟨rfl, rfl, rfl, fun _ => rfl⟩
  | N x m _ _ ih1 ih2 =>
    refine ⟨by rw [xbb, xbb, ih1.1, ih2.1], rfl, ?_, fun c => ?_⟩
    · show Sh.N _ _ _ = Sh.N _ _ _; rw [ih1.2.2.1, ih2.2.2.1]
    · show _ ++ _ :: _ = _ ++ _ :: _; rw [ih1.2.2.2, ih2.2.2.2]
inductive Cx where
  | top | L (C : Cx) (x : Nd) (r : T) | R (C : Cx) (l : T) (x : Nd)
def Cx.plug : Cx → T → T
  | .top, t => t
  | .L C x r, t => C.plug (.N t x r)
  | .R C l x, t => C.plug (.N l x t)
def Cx.par : Cx → PV
  | .top => .none
  | .L _ x _ => .ref x.id
  | .R _ _ x => .ref x.id
theorem xeY : ∀ (C : Cx) (t : T), ∃ a b, ∀ t2, (C.plug t2).ids = a ++ t2.ids ++ b
  | .top, t => ⟨[], [], fun t2 => by simp [Cx.plug]⟩
  | .L C x r, t => by
    obtain ⟨a, b, h⟩ := xeY C .E
    exact ⟨a, x.id :: r.ids ++ b, fun t2 => by rw [Cx.plug, h, xbb]; simp⟩
  | .R C l x, t => by
    obtain ⟨a, b, h⟩ := xeY C .E
    exact ⟨a ++ l.ids ++ [x.id], b, fun t2 => by rw [Cx.plug, h, xbb]; simp⟩
theorem xfg {C : Cx} {t : T} (h : (C.plug t).ids.Nodup) : t.ids.Nodup ∧ ∀ x ∈ t.ids, x ∈ (C.plug t).ids := by
  obtain ⟨a, b, e⟩ := xeY C t
  rw [e t] at h ⊢
  exact ⟨(List.nodup_append.mp (List.nodup_append.mp h).1).2.1, fun x hx => List.mem_append_left _ (List.mem_append_right _ hx)⟩
theorem xef {σ σ' : St} : ∀ (C : Cx) {t : T}, Sub σ .none (C.plug t) → (C.plug t).ids.Nodup → Sub σ C.par t ∧
    ∀ t2 : T, Sub σ' C.par t2 → t2.ptr = t.ptr → (∀ a, a ∈ (C.plug t).ids → a ∉ t.ids → σ'.objs a = σ.objs a) → Sub σ' .none (C.plug t2)
  | .top, t, h, _ => ⟨h, fun t2 h2 _ _ => h2⟩
  | .L C x r, t, h, hn => by
    obtain ⟨⟨h1, h2, h3⟩, h4⟩ := xef (σ' := σ') C (t := .N t x r) h hn
    obtain ⟨n1, n2⟩ := xfg (C := C) (t := .N t x r) hn
    rw [xbb] at n1
    have hd := List.nodup_append.mp n1
    refine ⟨h2, fun t2 k1 k2 k3 => h4 (.N t2 x r) ⟨?_, k1, Sub.of (fun a ha => ?_) h3⟩ rfl fun a ha hx => k3 a ha fun q => hx (by rw [xbb]; exact List.mem_append_left _ q)⟩
    · rw [k3 x.id (n2 _ (by rw [xbb]; simp)) (fun q => hd.2.2 _ q _ (List.mem_cons_self ..) rfl), k2]; exact h1
    · exact k3 a (n2 _ (by rw [xbb]; exact List.mem_append_right _ (List.mem_cons_of_mem _ ha))) (fun q => hd.2.2 _ q _ (List.mem_cons_of_mem _ ha) rfl)
  | .R C l x, t, h, hn => by
    obtain ⟨⟨h1, h2, h3⟩, h4⟩ := xef (σ' := σ') C (t := .N l x t) h hn
    obtain ⟨n1, n2⟩ := xfg (C := C) (t := .N l x t) hn
    rw [xbb] at n1
    have hd := List.nodup_append.mp n1
    have hd2 := List.nodup_cons.mp hd.2.1
    refine ⟨h3, fun t2 k1 k2 k3 => h4 (.N l x t2) ⟨?_, Sub.of (fun a ha => ?_) h2, k1⟩ rfl fun a ha hx => k3 a ha fun q => hx (by rw [xbb]; exact List.mem_append_right _ (List.mem_cons_of_mem _ q))⟩
    · rw [k3 x.id (n2 _ (by rw [xbb]; simp)) hd2.1, k2]; exact h1
    · exact k3 a (n2 _ (by rw [xbb]; exact List.mem_append_left _ ha)) (fun q => hd.2.2 _ ha _ (List.mem_cons_of_mem _ q) rfl)
theorem xjn : ∀ (C : Cx) {t : T}, (C.plug t).UB → t.UB ∧ ∀ t2 : T, t2.UB → (∀ m, t2.top = some m → ∃ m', t.top = some m' ∧ m ≤ m') → (C.plug t2).UB
  | .top, t, h => ⟨h, fun t2 h2 _ => h2⟩
  | .L C x r, t, h => by
    obtain ⟨⟨u1, u2, u3, u4, u5⟩, k⟩ := xjn C (t := .N t x r) h
    exact ⟨u4, fun t2 h2 h3 => k (.N t2 x r) ⟨u1, (fun m hm => by obtain ⟨m', e, le⟩ := h3 m hm; have := u2 m' e; omega), u3, h2, u5⟩ fun m hm => ⟨m, hm, Int.le_refl _⟩⟩
  | .R C l x, t, h => by
    obtain ⟨⟨u1, u2, u3, u4, u5⟩, k⟩ := xjn C (t := .N l x t) h
    exact ⟨u5, fun t2 h2 h3 => k (.N l x t2) ⟨u1, u2, (fun m hm => by obtain ⟨m', e, le⟩ := h3 m hm; have := u3 m' e; omega), u4, h2⟩ fun m hm => ⟨m, hm, Int.le_refl _⟩⟩
theorem xi4 : ∀ (C : Cx) {t t2 : T}, Lm t t2 → Lm (C.plug t) (C.plug t2)
  | .top, _, _, h => h
  | .L C x r, _, _, h => xi4 C (Lm.N x x.lim h (Lm.refl r))
  | .R C l x, _, _, h => xi4 C (Lm.N x x.lim (Lm.refl l) h)
inductive LmC : Cx → Cx → Prop
  | top : LmC .top .top
  | L {C C' : Cx} {r r' : T} (x : Nd) (m : Int) : LmC C C' → Lm r r' → LmC (.L C x r) (.L C' { x with lim := m } r')
  | R {C C' : Cx} {l l' : T} (x : Nd) (m : Int) : LmC C C' → Lm l l' → LmC (.R C l x) (.R C' l' { x with lim := m })
theorem LmC.plug {C C' : Cx} (h : LmC C C') : ∀ {t t' : T}, Lm t t' → Lm (C.plug t) (C'.plug t') := by
  induction h with
  | top => exact fun h => h
  | L x m _ k ih => exact fun h => ih (Lm.N x m h k)
  | R x m _ k ih => exact fun h => ih (Lm.N x m k h)
theorem LmC.par {C C' : Cx} (h : LmC C C') : C'.par = C.par := by cases h <;> rfl
theorem xo5 : ∀ (C : Cx) {t u : T}, Lm (C.plug t) u → ∃ C' t', u = C'.plug t' ∧ LmC C C' ∧ Lm t t'
  | .top, t, u, h => ⟨.top, u, rfl, .top, h⟩
  | .L C x r, t, u, h => by
    obtain ⟨C', t', rfl, h1, h2⟩ := xo5 C (t := .N t x r) h
    cases h2 with
    | N _ m k1 k2 => exact ⟨.L C' { x with lim := m } _, _, rfl, .L x m h1 k2, k1⟩
  | .R C l x, t, u, h => by
    obtain ⟨C', t', rfl, h1, h2⟩ := xo5 C (t := .N l x t) h
    cases h2 with
    | N _ m k1 k2 => exact ⟨.R C' _ { x with lim := m }, _, rfl, .R x m h1 k1, k2⟩
def geV (x : Nd) (l r : T) : Int := match r.top with
  | none => (match l.top with | none => x.e | some m => mx x.e m)
  | some k => mx (match l.top with | none => x.e | some m => mx x.e m) k
theorem xrG {x : Nd} {l r : T} (h : (T.N l x r).UB) : geV x l r ≤ x.lim := by
  obtain ⟨u1, u2, u3, _, _⟩ := h
  have h1 : (match l.top with | none => x.e | some m => mx x.e m) ≤ x.lim := by
    split
    · exact u1
    · rename_i m hm
      have := u2 m hm
      unfold mx; split <;> omega
  unfold geV
  split
  · exact h1
  · rename_i k hk
    have := u3 k hk
    generalize (match l.top with | none => x.e | some m => mx x.e m) = z at h1 ⊢
    unfold mx; split <;> omega
theorem xqu {x : Nd} {l r : T} : x.e ≤ geV x l r ∧ (∀ m, l.top = some m → m ≤ geV x l r) ∧ (∀ m, r.top = some m → m ≤ geV x l r) := by
  have h1 : x.e ≤ (match l.top with | none => x.e | some m => mx x.e m) ∧ ∀ m, l.top = some m → m ≤ (match l.top with | none => x.e | some m => mx x.e m) := by
    cases l.top with
    | none => exact ⟨Int.le_refl _, fun m h => by cases h⟩
    | some m => exact ⟨xoB _ _, fun m' h => by cases h; exact xpz _ _⟩
  generalize hz : (match l.top with | none => x.e | some m => mx x.e m) = z at h1
  have hg : geV x l r = match r.top with | none => z | some k => mx z k := by unfold geV; rw [← hz]
  rw [hg]
  cases r.top with
  | none => exact ⟨h1.1, h1.2, fun m h => by cases h⟩
  | some k =>
    have := xoB z k
    exact ⟨Int.le_trans h1.1 this, (fun m hm => Int.le_trans (h1.2 m hm) this), fun m h => by cases h; exact xpz _ _⟩
theorem xrY {σ : St} {p : PV} {l r : T} {x : Nd} (h : Sub σ p (.N l x r)) : xaZ [.ref x.id] σ = some (.int (geV x l r), σ) := by
  obtain ⟨h1, h2, h3⟩ := h
  have hx : σ.objs x.id = .inst 0 [x.num, .int x.b, .int x.e, x.fa, x.ra, .int x.lim, .int x.off, .bool x.red, l.ptr, r.ptr, p] := h1
  cases l with
  | E =>
    cases r with
    | E =>
      unfold xaZ xcm geV
      simp only [xaT, xa5, xak, xcA, xbG, xa9, xa3, xap, xeE, xeJ, xad, xa1, xa8, xaN, xda, xaI, xaA, xay, xat, xaf, List.lookup, xbo, xeN, sIf, xaP, xai, xbc, xcc, xaW, xaC, xhJ, List.map, List.length, List.replicate, List.cons_append, List.nil_append, List.getElem?_cons_zero, List.getElem?_cons_succ, beq_self_eq_true, List.set, List.set_cons_succ, Option.map, Bool.not_true, Bool.false_eq_true, ↓reduceIte, Nat.reduceAdd, Nat.reduceLeDiff, hx, T.ptr, T.top, mx]
    | N rl z rr =>
      have hz : σ.objs z.id = .inst 0 [z.num, .int z.b, .int z.e, z.fa, z.ra, .int z.lim, .int z.off, .bool z.red, rl.ptr, rr.ptr, .ref x.id] := h3.1
      unfold xaZ xcm geV
      simp only [xaT, xa5, xak, xcA, xbG, xa9, xa3, xap, xeE, xeJ, xad, xa1, xa8, xaN, xda, xaI, xaA, xay, xat, xaf, List.lookup, xbo, xeN, sIf, xaP, xai, xbc, xcc, xaW, xaC, xhJ, List.map, List.length, List.replicate, List.cons_append, List.nil_append, List.getElem?_cons_zero, List.getElem?_cons_succ, beq_self_eq_true, List.set, List.set_cons_succ, Option.map, Bool.not_true, Bool.not_false, Bool.false_eq_true, Option.some.injEq, Prod.mk.injEq, ↓reduceIte, Nat.reduceAdd, Nat.reduceLeDiff, hx, hz, T.ptr, T.top, mx]
      exact ⟨rfl, trivial⟩
  | N ll y lr =>
    have hy : σ.objs y.id = .inst 0 [y.num, .int y.b, .int y.e, y.fa, y.ra, .int y.lim, .int y.off, .bool y.red, ll.ptr, lr.ptr, .ref x.id] := h2.1
    cases r with
    | E =>
      unfold xaZ xcm geV
      simp only [xaT, xa5, xak, xcA, xbG, xa9, xa3, xap, xeE, xeJ, xad, xa1, xa8, xaN, xda, xaI, xaA, xay, xat, xaf, List.lookup, xbo, xeN, sIf, xaP, xai, xbc, xcc, xaW, xaC, xhJ, List.map, List.length, List.replicate, List.cons_append, List.nil_append, List.getElem?_cons_zero, List.getElem?_cons_succ, beq_self_eq_true, List.set, List.set_cons_succ, Option.map, Bool.not_true, Bool.not_false, Bool.false_eq_true, ↓reduceIte, Nat.reduceAdd, Nat.reduceLeDiff, hx, hy, T.ptr, T.top, mx]
    | N rl z rr =>
      have hz : σ.objs z.id = .inst 0 [z.num, .int z.b, .int z.e, z.fa, z.ra, .int z.lim, .int z.off, .bool z.red, rl.ptr, rr.ptr, .ref x.id] := h3.1
      unfold xaZ xcm geV
      simp only [xaT, xa5, xak, xcA, xbG, xa9, xa3, xap, xeE, xeJ, xad, xa1, xa8, xaN, xda, xaI, xaA, xay, xat, xaf, List.lookup, xbo, xeN, sIf, xaP, xai, xbc, xcc, xaW, xaC, xhJ, List.map, List.length, List.replicate, List.cons_append, List.nil_append, List.getElem?_cons_zero, List.getElem?_cons_succ, beq_self_eq_true, List.set, List.set_cons_succ, Option.map, Bool.not_false, Option.some.injEq, Prod.mk.injEq, ↓reduceIte, Nat.reduceAdd, Nat.reduceLeDiff, hx, hy, hz, T.ptr, T.top, mx]
      exact ⟨rfl, trivial⟩
noncomputable def xmP : xa6 → M Bool := xaP (xa3 0) (xai xbc xaW)
noncomputable def xky : xa6 → M (FR × xa6) := (xa5 (xak 1 (xad xaZ (xa1 (xa3 0) xa8)))
    (xa5 (sIf (xaP (xa3 1) (xai cEq (xa9 xaA (xa3 0)))) (xa5 xfR
    xaC) xaC)
    (xa5 (xa7 xaA (xa3 0) (xa3 1))
    (xa5 (xak 0 (xa9 xau (xa3 0)))
    xaC))))
theorem xr1 : xdU = xa5 (xcB xmP xky) xaC := rfl
theorem xnj {σ : St} {p : PV} {l r : T} {x : Nd} {o : Option PV} (h : Sub σ p (.N l x r)) :
    (geV x l r = x.lim ∧ xky [some (.ref x.id), o] σ = some ((.ret .none, [some (.ref x.id), some (.int (geV x l r))]), σ)) ∨
    (xky [some (.ref x.id), o] σ = some ((.next, [some p, some (.int (geV x l r))]), σ.set x.id (Nd.obj { x with lim := geV x l r } l.ptr r.ptr p))) := by
  have hge := xrY h
  obtain ⟨h1, h2, h3⟩ := h
  have hx : σ.objs x.id = .inst 0 [x.num, .int x.b, .int x.e, x.fa, x.ra, .int x.lim, .int x.off, .bool x.red, l.ptr, r.ptr, p] := h1
  have hcall : xad xaZ (xa1 (xa3 0) xa8) [some (.ref x.id), o] σ = some (.int (geV x l r), σ) := xb2 (vs := [.ref x.id]) (σ0 := σ) rfl hge
  have ha : xak 1 (xad xaZ (xa1 (xa3 0) xa8)) [some (.ref x.id), o] σ = some ((.next, [some (.ref x.id), some (.int (geV x l r))]), σ) := by
    unfold xak; rw [xaj hcall]; rfl
  have ht : xaP (xa3 1) (xai cEq (xa9 xaA (xa3 0))) [some (.ref x.id), some (.int (geV x l r))] σ = some (geV x l r == x.lim, σ) := by
    simp only [xa9, xa3, xap, xaN, xaA, List.lookup, xaP, xai, List.getElem?_cons_zero, List.getElem?_cons_succ, beq_self_eq_true, hx, cEq]
  by_cases hc : geV x l r = x.lim
  · refine .inl ⟨hc, ?_⟩
    unfold xky
    refine xav ha (xb8 ?_)
    unfold sIf
    rw [ht, show (geV x l r == x.lim) = true from beq_iff_eq.mpr hc]
    rfl
  · refine .inr ?_
    unfold xky
    refine xav ha (xam (σ1 := σ) ?_ ?_)
    · unfold sIf
      rw [ht, show (geV x l r == x.lim) = false from beq_false_of_ne hc]
      rfl
    · simp only [xa5, xa7, xak, xa9, xa3, xap, xaN, xbO, xao, xaA, xau, List.lookup, xaC, List.length, List.getElem?_cons_zero, List.getElem?_cons_succ, beq_self_eq_true, List.set, ↓reduceIte, Nat.reduceAdd, Nat.reduceLT, hx, Nd.obj]
theorem xsG {tr : Nat} : ∀ (C : Cx) (l : T) (x : Nd) (r : T) (o : Option PV) (σ : St), Sub σ .none (C.plug (.N l x r)) → (C.plug (.N l x r)).ids.Nodup → (C.plug (.N l x r)).UB →
    ∃ f fr σ' T', xcB xmP xky [some (.ref x.id), o] σ = some ((f, fr), σ') ∧ (f = .next ∨ f = .ret .none) ∧ σ'.next = σ.next ∧ Sub σ' .none T' ∧ Lm (C.plug (.N l x r)) T' ∧ T'.UB ∧ ∀ a, a ∉ (C.plug (.N l x r)).ids → σ'.objs a = σ.objs a := by
  intro C
  induction C with
  | top =>
    intro l x r o σ hs hn hu
    have hcond : xmP [some (.ref x.id), o] σ = some (true, σ) := rfl
    rcases xnj (o := o) hs with ⟨_, h⟩ | h
    · exact ⟨_, _, σ, _, xg4 hcond h, .inr rfl, rfl, hs, Lm.refl _, hu, fun _ _ => rfl⟩
    · refine ⟨.next, [some .none, some (.int (geV x l r))], _, .N l { x with lim := geV x l r } r, xd3 hcond h (xfi rfl), .inl rfl, rfl, ?_, Lm.N x _ (Lm.refl l) (Lm.refl r), ?_, fun a ha => if_neg (fun q => ha (by show a ∈ (T.N l x r).ids; rw [xbb, q]; simp))⟩
      · have hn' : (T.N l x r).ids.Nodup := hn
        rw [xbb] at hn'
        have hd := List.nodup_append.mp hn'
        have hd2 := List.nodup_cons.mp hd.2.1
        obtain ⟨h1, h2, h3⟩ := hs
        exact ⟨if_pos rfl, Sub.of (fun a ha => if_neg (fun q => hd.2.2 _ ha _ (List.mem_cons_self ..) q)) h2, Sub.of (fun a ha => if_neg (fun q : a = x.id => hd2.1 (by rw [← q]; exact ha))) h3⟩
      · obtain ⟨_, _, _, u4, u5⟩ := hu
        have := xqu (x := x) (l := l) (r := r)
        exact ⟨this.1, this.2.1, this.2.2, u4, u5⟩
  | L C y r0 ih =>
    intro l x r o σ hs hn hu
    have hcond : xmP [some (.ref x.id), o] σ = some (true, σ) := rfl
    have hsx := (xef (σ' := σ) (.L C y r0) hs hn).1
    rcases xnj (o := o) hsx with ⟨_, h⟩ | h
    · exact ⟨_, _, σ, _, xg4 hcond h, .inr rfl, rfl, hs, Lm.refl _, hu, fun _ _ => rfl⟩
    · generalize hσ1 : σ.set x.id (Nd.obj { x with lim := geV x l r } l.ptr r.ptr (Cx.L C y r0).par) = σ1 at h
      have hn2 := xfg (C := .L C y r0) (t := .N l x r) hn
      have hn' := hn2.1
      rw [xbb] at hn'
      have hd := List.nodup_append.mp hn'
      have hd2 := List.nodup_cons.mp hd.2.1
      have o1 : ∀ a, a ≠ x.id → σ1.objs a = σ.objs a := fun a ha => by rw [← hσ1]; exact if_neg ha
      have hs1 : Sub σ1 (Cx.L C y r0).par (.N l { x with lim := geV x l r } r) := by
        obtain ⟨h1, h2, h3⟩ := hsx
        exact ⟨by rw [← hσ1]; exact if_pos rfl, Sub.of (fun a ha => o1 a (fun q => hd.2.2 _ ha _ (List.mem_cons_self ..) q)) h2, Sub.of (fun a ha => o1 a (fun q : a = x.id => hd2.1 (by rw [← q]; exact ha))) h3⟩
      have hs2 := (xef (σ' := σ1) (.L C y r0) hs hn).2 _ hs1 rfl fun a _ ha => o1 a fun q => ha (by rw [xbb, q]; simp)
      have hu2 : ((Cx.L C y r0).plug (.N l { x with lim := geV x l r } r)).UB := by
        have hux := xjn (.L C y r0) hu
        obtain ⟨_, _, _, u4, u5⟩ := hux.1
        have := xqu (x := x) (l := l) (r := r)
        refine hux.2 _ ⟨this.1, this.2.1, this.2.2, u4, u5⟩ fun m hm => ?_
        cases hm
        have := xrG hux.1
        exact ⟨x.lim + x.off, rfl, by show geV x l r + x.off ≤ _; omega⟩
      have hids : ((Cx.L C y r0).plug (.N l { x with lim := geV x l r } r)).ids = ((Cx.L C y r0).plug (.N l x r)).ids := (xi4 _ (Lm.N x _ (Lm.refl l) (Lm.refl r))).keep.1
      obtain ⟨f, fr, σ', T', k1, k2, k3, k4, k5, k6, k7⟩ := ih (.N l { x with lim := geV x l r } r) y r0 (some (.int (geV x l r))) σ1 hs2 (hids ▸ hn) hu2
      refine ⟨f, fr, σ', T', xd3 hcond h k1, k2, by rw [k3, ← hσ1]; rfl, k4, (xi4 (.L C y r0) (Lm.N x _ (Lm.refl l) (Lm.refl r))).trans k5, k6, fun a ha => ?_⟩
      rw [k7 a (by have hids' : (C.plug (.N (.N l { x with lim := geV x l r } r) y r0)).ids = ((Cx.L C y r0).plug (.N l x r)).ids := hids
                   rw [hids']; exact ha), o1 a fun q => ha (hn2.2 a (by rw [xbb, q]; simp))]
  | R C l0 y ih =>
    intro l x r o σ hs hn hu
    have hcond : xmP [some (.ref x.id), o] σ = some (true, σ) := rfl
    have hsx := (xef (σ' := σ) (.R C l0 y) hs hn).1
    rcases xnj (o := o) hsx with ⟨_, h⟩ | h
    · exact ⟨_, _, σ, _, xg4 hcond h, .inr rfl, rfl, hs, Lm.refl _, hu, fun _ _ => rfl⟩
    · generalize hσ1 : σ.set x.id (Nd.obj { x with lim := geV x l r } l.ptr r.ptr (Cx.R C l0 y).par) = σ1 at h
      have hn2 := xfg (C := .R C l0 y) (t := .N l x r) hn
      have hn' := hn2.1
      rw [xbb] at hn'
      have hd := List.nodup_append.mp hn'
      have hd2 := List.nodup_cons.mp hd.2.1
      have o1 : ∀ a, a ≠ x.id → σ1.objs a = σ.objs a := fun a ha => by rw [← hσ1]; exact if_neg ha
      have hs1 : Sub σ1 (Cx.R C l0 y).par (.N l { x with lim := geV x l r } r) := by
        obtain ⟨h1, h2, h3⟩ := hsx
        exact ⟨by rw [← hσ1]; exact if_pos rfl, Sub.of (fun a ha => o1 a (fun q => hd.2.2 _ ha _ (List.mem_cons_self ..) q)) h2, Sub.of (fun a ha => o1 a (fun q : a = x.id => hd2.1 (by rw [← q]; exact ha))) h3⟩
      have hs2 := (xef (σ' := σ1) (.R C l0 y) hs hn).2 _ hs1 rfl fun a _ ha => o1 a fun q => ha (by rw [xbb, q]; simp)
      have hu2 : ((Cx.R C l0 y).plug (.N l { x with lim := geV x l r } r)).UB := by
        have hux := xjn (.R C l0 y) hu
        obtain ⟨_, _, _, u4, u5⟩ := hux.1
        have := xqu (x := x) (l := l) (r := r)
        refine hux.2 _ ⟨this.1, this.2.1, this.2.2, u4, u5⟩ fun m hm => ?_
        cases hm
        have := xrG hux.1
        exact ⟨x.lim + x.off, rfl, by show geV x l r + x.off ≤ _; omega⟩
      have hids : ((Cx.R C l0 y).plug (.N l { x with lim := geV x l r } r)).ids = ((Cx.R C l0 y).plug (.N l x r)).ids := (xi4 _ (Lm.N x _ (Lm.refl l) (Lm.refl r))).keep.1
      obtain ⟨f, fr, σ', T', k1, k2, k3, k4, k5, k6, k7⟩ := ih l0 y (.N l { x with lim := geV x l r } r) (some (.int (geV x l r))) σ1 hs2 (hids ▸ hn) hu2
      refine ⟨f, fr, σ', T', xd3 hcond h k1, k2, by rw [k3, ← hσ1]; rfl, k4, (xi4 (.R C l0 y) (Lm.N x _ (Lm.refl l) (Lm.refl r))).trans k5, k6, fun a ha => ?_⟩
      rw [k7 a (by have hids' : (C.plug (.N l0 y (.N l { x with lim := geV x l r } r))).ids = ((Cx.R C l0 y).plug (.N l x r)).ids := hids
                   rw [hids']; exact ha), o1 a fun q => ha (hn2.2 a (by rw [xbb, q]; simp))]
theorem xsd {C : Cx} {l : T} {x : Nd} {r : T} {σ : St} (hs : Sub σ .none (C.plug (.N l x r))) (hn : (C.plug (.N l x r)).ids.Nodup) (hu : (C.plug (.N l x r)).UB) :
    ∃ σ' T', xcJ [.ref x.id] σ = some (.none, σ') ∧ σ'.next = σ.next ∧ Sub σ' .none T' ∧ Lm (C.plug (.N l x r)) T' ∧ T'.UB ∧ ∀ a, a ∉ (C.plug (.N l x r)).ids → σ'.objs a = σ.objs a := by
  obtain ⟨f, fr, σ', T', h1, h2, r3⟩ := xsG (tr := 0) C l x r none σ hs hn hu
  refine ⟨σ', T', ?_, r3⟩
  unfold xcJ xaT
  rw [if_pos (show [PV.ref x.id].length = 1 from rfl)]
  show bnd (xdU [some (.ref x.id), none] σ) _ = _
  rw [xr1]
  rcases h2 with rfl | rfl
  · rw [xav h1 rfl]; rfl
  · rw [xb8 h1]; rfl
end
section
open PySem
def gap (at_ many x : Int) : Int := if at_ < x then mx at_ (x - many) else x
def xrQ (at_ many : Int) (it : It) : It := ⟨it.id, it.num, gap at_ many it.b, gap at_ many it.e⟩
def shI (d : Int) (it : It) : It := ⟨it.id, it.num, it.b + d, it.e + d⟩
theorem xh8 (d : Int) : ∀ (t : T) (c : Int), t.inord (c + d) = (t.inord c).map (shI d)
  | .E, _ => rfl
  | .N l x r, c => by
    show l.inord (c + d + x.off) ++ ⟨x.id, x.num, x.b + (c + d + x.off), x.e + (c + d + x.off)⟩ :: r.inord (c + d + x.off) = List.map _ (l.inord (c + x.off) ++ ⟨x.id, x.num, x.b + (c + x.off), x.e + (c + x.off)⟩ :: r.inord (c + x.off))
    rw [List.map_append, List.map_cons, show c + d + x.off = c + x.off + d by omega, xh8 d l, xh8 d r]
    unfold shI
    congr 3 <;> (dsimp only; omega)
theorem xtd {a m x : Int} (hm : 0 < m) : gap a m x ≤ x := by unfold gap mx; split <;> (try split) <;> omega
theorem xmH {a m x : Int} (h : x ≤ a) : gap a m x = x := by unfold gap; rw [if_neg (by omega)]
theorem xrK {a m x : Int} (hm : 0 < m) (h : a + m < x) : gap a m x = x - m := by unfold gap mx; rw [if_pos (by omega), if_pos (by omega)]
theorem xlK {a m x y : Int} (hm : 0 < m) (h : x ≤ y) : gap a m x ≤ gap a m y := by unfold gap mx; split <;> split <;> (try split) <;> (try split) <;> omega
def GT (σ : St) (tr : Nat) (t : T) : Prop := ∃ u, Lm t u ∧ u.UB ∧ xkn σ tr u
noncomputable def cgA : xa6 → M (FR × xa6) := (sIf (xcK (xaP (xa9 xaf (xa3 4)) (xai xbc xaW)) (xcK (xaP (xa9 xal (xa3 4)) (xai cGt (xbG xda (xa3 1) (xa3 2)))) xbV)) (xa5 (xa7 xay (xa9 xaf (xa3 4)) (xbG xhc (xa9 xay (xa9 xaf (xa3 4))) (xa3 2)))
    xaC) (xa5 (xb1 (xcs isL xco (xa3 3) (xa9 xaf (xa3 4))))
    xaC))
noncomputable def cgB : xa6 → M (FR × xa6) := (xb1 (xcs isL xco (xa3 3) (xa9 xat (xa3 4))))
noncomputable def xsF : xa6 → M (FR × xa6) := (sIf (xaP (xa9 xal (xa3 4)) (xai cGt (xa3 1))) (xa5 (xa7 xal (xa3 4) (xad xhJ (xa1 (xa3 1) (xa1 (xbG xhc (xa9 xal (xa3 4)) (xa3 2)) xa8))))
    xaC) xaC)
noncomputable def xss : xa6 → M (FR × xa6) := (sIf (xaP (xa9 xaI (xa3 4)) (xai cGt (xa3 1))) (xa5 (xa7 xaI (xa3 4) (xad xhJ (xa1 (xa3 1) (xa1 (xbG xhc (xa9 xaI (xa3 4)) (xa3 2)) xa8))))
    xaC) xaC)
noncomputable def cgD : xa6 → M (FR × xa6) := (xb1 (xad xcJ (xa1 (xa3 4) xa8)))
noncomputable def xsw : xa6 → M (FR × xa6) := (sIf (xaP (xa9 xaA (xa3 4)) (xai cGt (xa3 1))) (xa5 cgA (xa5 cgB (xa5 xsF (xa5 xss (xa5 cgD xaC))))) xaC)
noncomputable def xoi : xa6 → M (FR × xa6) := (sIf (xaP (xa3 4) (xai xbc xaW)) (xa5 (xb1 (xad xba (xa1 (xa3 4) xa8))) (xa5 xsw xaC)) xaC)
noncomputable def xox : xa6 → M (FR × xa6) := xa5 (xak 4 (xjp isL xrB (xa3 3))) (xa5 xoi xaC)
noncomputable def xmk : xa6 → M Bool := (xaP (xad xgx (xa1 (xa3 3) xa8)) (xai cGt (xaK 0)))
noncomputable def xiA : xa6 → M (FR × xa6) := xcB xmk xox
theorem xqN : xfq = xa5 (sIf (xaP (xa3 2) (xai cLe (xaK 0))) (xa5 xfR xaC) xaC) (xa5 (xak 3 (xc8 (xa1 (xa9 xbh (xa3 0)) xa8))) (xa5 xiA xaC)) := rfl
def cgF (tr wl : Nat) (a m : Int) (o : Option PV) : xa6 := [some (.ref tr), some (.int a), some (.int m), some (.ref wl), o]
theorem xjj {a i : Nat} {e : xa6 → M PV} {fr : xa6} {σ : St} {vs : List PV} {v : PV} (h1 : fr[a]? = some (some (.ref i))) (h2 : e fr σ = some (v, σ)) (h3 : σ.objs i = .list vs) (h4 : vs.length < 1000) :
    xb1 (xcs isL xco (xa3 a) e) fr σ = some ((.next, fr), σ.set i (.list (vs ++ [v]))) := by
  unfold xb1 xcs xa3
  rw [h1]
  simp only [xap, isL, h3, ↓reduceIte]
  rw [h2]
  simp only [xap, xco, h3, ↓reduceIte, h4]
section
variable {tr wl : Nat} {a m : Int}
theorem xpJ {o : Option PV} {v : PV} {ws : List PV} {σ σ' : St} (h : σ.objs wl = .list (ws ++ [v])) (h2 : xoi (cgF tr wl a m (some v)) (σ.set wl (.list ws)) = some ((.next, cgF tr wl a m (some v)), σ')) : xiA (cgF tr wl a m o) σ = xiA (cgF tr wl a m (some v)) σ' := by
  unfold xiA
  rw [xgE]
  have hc : xmk (cgF tr wl a m o) σ = some (true, σ) := by
    unfold xmk
    rw [xho (a := 3) (fr := cgF tr wl a m o) rfl h]
    simp
  rw [hc]
  have hb : xox (cgF tr wl a m o) σ = some ((.next, cgF tr wl a m (some v)), σ') := by
    unfold xox
    exact xav (xpr (a := 3) (k := 4) rfl h) (xav h2 rfl)
  show bnd (xox _ σ) _ = _
  rw [hb]
  rfl
theorem xrR {i : Nat} {σ : St} {w0 w3 w4 w5 w6 w7 w8 w9 w10 : PV} {b e : Int} (h : σ.objs i = .inst 0 [w0, .int b, .int e, w3, w4, w5, w6, w7, w8, w9, w10]) :
    ∃ σ', xa5 xsF (xa5 xss (xa5 cgD xaC)) (cgF tr wl a m (some (.ref i))) σ = xa5 cgD xaC (cgF tr wl a m (some (.ref i))) σ' ∧ (σ'.next = σ.next ∧ (∀ j, j ≠ i → σ'.objs j = σ.objs j) ∧ σ'.objs i = .inst 0 [w0, .int (gap a m b), .int (gap a m e), w3, w4, w5, w6, w7, w8, w9, w10]) := by
  have h1 : ∃ σ1, xsF (cgF tr wl a m (some (.ref i))) σ = some ((.next, cgF tr wl a m (some (.ref i))), σ1) ∧ σ1.next = σ.next ∧ (∀ j, j ≠ i → σ1.objs j = σ.objs j) ∧ σ1.objs i = .inst 0 [w0, .int (gap a m b), .int e, w3, w4, w5, w6, w7, w8, w9, w10] := by
    unfold xsF cgF
    by_cases hc : a < b
    · have hg : gap a m b = if b - m > a then b - m else a := by unfold gap mx; rw [if_pos hc]
      refine ⟨σ.set i (.inst 0 [w0, .int (gap a m b), .int e, w3, w4, w5, w6, w7, w8, w9, w10]), ?_, rfl, fun j hj => if_neg hj, if_pos rfl⟩
      rw [hg]
      simp only [xa5, xa7, xbG, xa9, xa3, xap, xad, xa1, xa8, xaN, xbO, xhc, xal, List.lookup, sIf, xaP, xai, xg3, cGt, xaC, xhJ, List.length, List.getElem?_cons_zero, List.getElem?_cons_succ, beq_self_eq_true, List.set, ↓reduceIte, Nat.reduceAdd, Nat.reduceLT, decide_true, h, hc]
    · refine ⟨σ, ?_, rfl, fun j hj => rfl, by rw [xmH (by omega)]; exact h⟩
      simp only [xa5, xa7, xbG, xa9, xa3, xap, xad, xa1, xa8, xaN, xbO, xhc, xal, List.lookup, sIf, xaP, xai, xg3, cGt, xaC, xhJ, List.getElem?_cons_zero, List.getElem?_cons_succ, beq_self_eq_true, Bool.false_eq_true, ↓reduceIte, decide_false, h, hc]
  obtain ⟨σ1, a1, a2, a3, a4⟩ := h1
  have h2 : ∃ σ2, xss (cgF tr wl a m (some (.ref i))) σ1 = some ((.next, cgF tr wl a m (some (.ref i))), σ2) ∧ σ2.next = σ1.next ∧ (∀ j, j ≠ i → σ2.objs j = σ1.objs j) ∧ σ2.objs i = .inst 0 [w0, .int (gap a m b), .int (gap a m e), w3, w4, w5, w6, w7, w8, w9, w10] := by
    unfold xss cgF
    by_cases hc : a < e
    · have hg : gap a m e = if e - m > a then e - m else a := by unfold gap mx; rw [if_pos hc]
      refine ⟨σ1.set i (.inst 0 [w0, .int (gap a m b), .int (gap a m e), w3, w4, w5, w6, w7, w8, w9, w10]), ?_, rfl, fun j hj => if_neg hj, if_pos rfl⟩
      rw [hg]
      simp only [xa5, xa7, xbG, xa9, xa3, xap, xad, xa1, xa8, xaN, xbO, xhc, xaI, List.lookup, sIf, xaP, xai, xg3, cGt, xaC, xhJ, List.length, List.getElem?_cons_zero, List.getElem?_cons_succ, beq_self_eq_true, List.set, ↓reduceIte, Nat.reduceAdd, Nat.reduceLT, decide_true, a4, hc]
    · refine ⟨σ1, ?_, rfl, fun j hj => rfl, by rw [xmH (x := e) (by omega)]; exact a4⟩
      simp only [xa5, xa7, xbG, xa9, xa3, xap, xad, xa1, xa8, xaN, xbO, xhc, xaI, List.lookup, sIf, xaP, xai, xg3, cGt, xaC, xhJ, List.getElem?_cons_zero, List.getElem?_cons_succ, beq_self_eq_true, Bool.false_eq_true, ↓reduceIte, decide_false, a4, hc]
  obtain ⟨σ2, b1, b2, b3, b4⟩ := h2
  exact ⟨σ2, xam a1 (xam b1 rfl), b2.trans a2, fun j hj => (b3 j hj).trans (a3 j hj), b4⟩
theorem xu4 {t : T} {c m : Int} (h : t.UB) (ht : t.top = some m) (hbe : ∀ it ∈ t.inord c, it.b ≤ it.e) {a k : Int} (hle : m + c ≤ a) : (t.inord c).map (xrQ a k) = t.inord c := by
  rw [List.map_congr_left (g := id), List.map_id]
  intro it hit
  have h1 := xom h ht it hit
  have h2 := hbe it hit
  unfold xrQ
  rw [xmH (by omega), xmH (by omega)]
  rfl
end
end
section
open PySem
theorem Lm.addOff {t u : T} (h : Lm t u) (k : Int) : Lm (t.addOff k) (u.addOff k) := by
  cases h with
  | E => exact .E
  | N x m h1 h2 => exact Lm.N (x := { x with off := x.off + k }) m h1 h2
theorem xoA : ∀ (D : Cx) {s s' : T}, s.ptr = s'.ptr → (D.plug s).ptr = (D.plug s').ptr := by
  intro D
  induction D with
  | top => exact fun h => h
  | L D y r ih => exact fun h => ih rfl
  | R D l y ih => exact fun h => ih rfl
section
variable {tr wl : Nat} {a m : Int}
theorem xrX (hm : 0 < m) : ∀ (t : T) (C : Cx) (c : Int) (σ : St) (ws : List PV) (o : Option PV), GT σ tr (C.plug (t.addOff c)) → (C.plug (t.addOff c)).nodes.length ≤ 100 → xgh (t.inord c) → (∀ it ∈ t.inord c, it.b ≤ it.e) →
    σ.objs wl = .list (ws ++ [t.ptr]) → ws.length + t.nodes.length ≤ 900 → wl ∉ tr :: (C.plug (t.addOff c)).ids → wl < σ.next →
    ∃ σ' t2 o', GT σ' tr (C.plug t2) ∧ t2.ids = t.ids ∧ t2.shape = t.shape ∧ t2.ptr = t.ptr ∧ t2.inord 0 = (t.inord c).map (xrQ a m) ∧ σ'.objs wl = .list ws ∧ σ'.next = σ.next ∧ (∀ j, j ≠ wl → j ∉ (C.plug (t.addOff c)).ids → σ'.objs j = σ.objs j) ∧
      xiA (cgF tr wl a m o) σ = xiA (cgF tr wl a m o') σ' := by
  intro t
  induction t with
  | E =>
    intro C c σ ws o hg hz hso hbe hw hz2 hni hlt
    obtain ⟨u, g1, g2, g3⟩ := hg
    have hkeep := g1.keep
    refine ⟨σ.set wl (.list ws), .E, some .none, ⟨u, g1, g2, ?_, ?_, g3.nodup, g3.lt⟩, rfl, rfl, rfl, rfl, if_pos rfl, rfl, fun j hj _ => if_neg hj, xpJ hw rfl⟩
    · obtain ⟨cnt, hc⟩ := g3.root
      exact ⟨cnt, (if_neg (fun q => hni (by rw [← q]; exact List.mem_cons_self ..))).trans hc⟩
    · exact Sub.of (fun j hj => if_neg (fun q => hni (by rw [← q, ← hkeep.1]; exact List.mem_cons_of_mem _ hj))) g3.sub
  | N l x r ihl ihr =>
    intro C c σ ws o hg hz hso hbe hw hz2 hni hlt
    obtain ⟨u, g1, g2, g3⟩ := hg
    obtain ⟨C', t', rfl, q1, q2⟩ := xo5 C g1
    have hPids : ∀ s s' : T, s.ids = s'.ids → (C.plug s).ids = (C.plug s').ids := fun s s' e => by
      obtain ⟨A, B, h⟩ := xeY C s
      rw [h, h, e]
    have hPidsL : ∀ D D' : Cx, LmC D D' → ∀ s s' : T, Lm s s' → (D'.plug s').ids = (D.plug s).ids := fun D D' hD s s' hs => (hD.plug hs).keep.1
    obtain ⟨l', r', M, rfl, ql, qr⟩ : ∃ l' r' M, t' = .N l' { x with off := x.off + c, lim := M } r' ∧ Lm l l' ∧ Lm r r' := by
      have q2' : Lm (.N l { x with off := x.off + c } r) t' := q2
      cases q2' with
      | N _ M h1 h2 => exact ⟨_, _, M, rfl, h1, h2⟩
    have kl := ql.keep
    have kr := qr.keep
    have hidsT : (T.N l' { x with off := x.off + c, lim := M } r').ids = (T.N l x r).ids := by rw [xbb, xbb, kl.1, kr.1]
    have hPid : (C'.plug (.N l' { x with off := x.off + c, lim := M } r')).ids = (C.plug ((T.N l x r).addOff c)).ids := (hPidsL C C' q1 _ _ q2)
    have hnodup := (List.nodup_cons.mp g3.nodup).2
    have htr := (List.nodup_cons.mp g3.nodup).1
    have hwlP : wl ∉ (C'.plug (.N l' { x with off := x.off + c, lim := M } r')).ids := by rw [hPid]; exact fun q => hni (List.mem_cons_of_mem _ q)
    have hwltr : wl ≠ tr := fun q => hni (by rw [q]; exact List.mem_cons_self ..)
    generalize hσ0 : σ.set wl (.list ws) = σ0
    have o0 : ∀ j, j ≠ wl → σ0.objs j = σ.objs j := fun j hj => by rw [← hσ0]; exact if_neg hj
    have w0 : σ0.objs wl = .list ws := by rw [← hσ0]; exact if_pos rfl
    have n0 : σ0.next = σ.next := by rw [← hσ0]; rfl
    have s0 : Sub σ0 .none (C'.plug (.N l' { x with off := x.off + c, lim := M } r')) := Sub.of (fun j hj => o0 j (fun q => hwlP (q ▸ hj))) g3.sub
    have hnT := xfg (C := C') (t := .N l' { x with off := x.off + c, lim := M } r') hnodup
    obtain ⟨σ1, e1, e2, e3, e4⟩ := xoa (xef (σ' := σ0) C' s0 hnodup).1 hnT.1
    have s1 : Sub σ1 .none (C'.plug (.N (l'.addOff (x.off + c)) (Nd.down { x with off := x.off + c, lim := M }) (r'.addOff (x.off + c)))) := (xef (σ' := σ1) C' s0 hnodup).2 _ e3 rfl fun j _ hj => e4 j hj
    have hu0 := xjn C' g2
    have u1 : (C'.plug (.N (l'.addOff (x.off + c)) (Nd.down { x with off := x.off + c, lim := M }) (r'.addOff (x.off + c)))).UB := by
      obtain ⟨v1, v2, v3, v4, v5⟩ := hu0.1
      refine hu0.2 _ ⟨?_, ?_, ?_, xdv v4, xdv v5⟩ fun k hk => ?_
      · show x.e + (x.off + c) ≤ M + (x.off + c)
        have : x.e ≤ M := v1
        omega
      · intro k hk; rw [xdi] at hk; obtain ⟨k', hk', rfl⟩ := Option.map_eq_some_iff.mp hk
        have : k' ≤ M := v2 k' hk'
        show _ ≤ M + (x.off + c); omega
      · intro k hk; rw [xdi] at hk; obtain ⟨k', hk', rfl⟩ := Option.map_eq_some_iff.mp hk
        have : k' ≤ M := v3 k' hk'
        show _ ≤ M + (x.off + c); omega
      · cases hk
        refine ⟨M + (x.off + c), rfl, ?_⟩
        show M + (x.off + c) + 0 ≤ _; omega
    have x1 : σ1.objs x.id = .inst 0 [x.num, .int (x.b + (x.off + c)), .int (x.e + (x.off + c)), x.fa, x.ra, .int (M + (x.off + c)), .int 0, .bool x.red, l.ptr, r.ptr, C.par] := by
      have := e3.1
      rw [xbJ, xbJ, kl.2.1, kr.2.1, q1.par] at this
      exact this
    have w1 : σ1.objs wl = .list ws := by rw [e4 wl (fun q => hwlP (hnT.2 _ q))]; exact w0
    have hnode : ∀ (v : PV) (σ' : St), xsw (cgF tr wl a m (some (.ref x.id))) σ1 = some ((.next, cgF tr wl a m (some (.ref x.id))), σ') → xiA (cgF tr wl a m o) σ = xiA (cgF tr wl a m (some (.ref x.id))) σ' := by
      intro v σ' h
      refine xpJ hw ?_
      rw [hσ0]
      have : xoi (cgF tr wl a m (some (.ref x.id))) σ0 = xa5 (xb1 (xad xba (xa1 (xa3 4) xa8))) (xa5 xsw xaC) (cgF tr wl a m (some (.ref x.id))) σ0 := rfl
      show xoi (cgF tr wl a m (some (.ref x.id))) σ0 = _
      rw [this]
      exact xam (xbx (vs := [.ref x.id]) (σ0 := σ0) rfl e1) (xam h rfl)
    have htest : xaP (xa9 xaA (xa3 4)) (xai cGt (xa3 1)) (cgF tr wl a m (some (.ref x.id))) σ1 = some (decide (a < M + (x.off + c)), σ1) := by
      unfold cgF
      simp only [xa9, xa3, xap, xaN, xaA, List.lookup, xaP, xai, xg3, cGt, List.getElem?_cons_zero, List.getElem?_cons_succ, beq_self_eq_true, x1]
    have old1 : ∀ j, j ≠ wl → j ∉ (C.plug ((T.N l x r).addOff c)).ids → σ1.objs j = σ.objs j := fun j h1 h2 => by
      rw [e4 j (fun q => h2 (by rw [← hPid]; exact hnT.2 _ q)), o0 j h1]
    have hinl : ∀ d, l'.inord d = l.inord d := kl.2.2.2
    have hinr : ∀ d, r'.inord d = r.inord d := kr.2.2.2
    have ec : c + x.off = x.off + c := by omega
    have hin : (T.N l x r).inord c = l.inord (x.off + c) ++ ⟨x.id, x.num, x.b + (x.off + c), x.e + (x.off + c)⟩ :: r.inord (x.off + c) := by
      show l.inord (c + x.off) ++ ⟨x.id, x.num, x.b + (c + x.off), x.e + (c + x.off)⟩ :: r.inord (c + x.off) = _
      rw [ec]
    by_cases hlim : a < M + (x.off + c)
    · have hin2 : xsw (cgF tr wl a m (some (.ref x.id))) σ1 = xa5 cgA (xa5 cgB (xa5 xsF (xa5 xss (xa5 cgD xaC)))) (cgF tr wl a m (some (.ref x.id))) σ1 := by
        unfold xsw sIf
        rw [htest, show decide (a < M + (x.off + c)) = true from decide_eq_true hlim]
        rfl
      rw [hin] at hso hbe
      have hp := List.pairwise_append.mp hso
      have hp2 := List.pairwise_cons.mp hp.2.1
      have hnT' := hnT.1
      rw [hidsT, xbb] at hnT'
      have hd := List.nodup_append.mp hnT'
      have hd2 := List.nodup_cons.mp hd.2.1
      have hxP : x.id ∈ (C.plug ((T.N l x r).addOff c)).ids := by rw [← hPid]; exact hnT.2 _ (by rw [hidsT, xbb]; simp)
      have hxwl : x.id ≠ wl := fun q => hni (List.mem_cons_of_mem _ (q ▸ hxP))
      have hnl : (T.N l x r).nodes.length = l.nodes.length + 1 + r.nodes.length := by show (l.nodes ++ x :: r.nodes).length = _; rw [List.length_append, List.length_cons]; omega
      rw [hnl] at hz2
      have hbeL : ∀ it ∈ l.inord (x.off + c), it.b ≤ it.e := fun it h => hbe it (List.mem_append_left _ h)
      have hbeR : ∀ it ∈ r.inord (x.off + c), it.b ≤ it.e := fun it h => hbe it (List.mem_append_right _ (List.mem_cons_of_mem _ h))
      have hbeX : x.b + (x.off + c) ≤ x.e + (x.off + c) := hbe _ (List.mem_append_right _ (List.mem_cons_self ..))
      have fin : ∀ (rk : Int) (W : List PV) (σ2 : St), rk ≤ x.off + c → (xa5 cgA (xa5 cgB (xa5 xsF (xa5 xss (xa5 cgD xaC)))) (cgF tr wl a m (some (.ref x.id))) σ1 = xa5 cgB (xa5 xsF (xa5 xss (xa5 cgD xaC))) (cgF tr wl a m (some (.ref x.id))) σ2) → σ2.next = σ1.next → σ2.objs x.id = σ1.objs x.id → σ2.objs wl = .list W → W.length ≤ ws.length + 1 →
          Sub σ2 (.ref x.id) (r'.addOff rk) → (∀ j, j ≠ wl → j ∉ r.ids → σ2.objs j = σ1.objs j) →
          ∃ σ6 t2l o6, GT σ6 tr (C.plug (.N t2l { x with b := gap a m (x.b + (x.off + c)), e := gap a m (x.e + (x.off + c)), off := 0 } (r.addOff rk))) ∧ t2l.ids = l.ids ∧ t2l.shape = l.shape ∧ t2l.ptr = l.ptr ∧ t2l.inord 0 = (l.inord (x.off + c)).map (xrQ a m) ∧ σ6.objs wl = .list W ∧ σ6.next = σ.next ∧
            (∀ j, j ≠ wl → j ∉ (C.plug ((T.N l x r).addOff c)).ids → σ6.objs j = σ.objs j) ∧ xiA (cgF tr wl a m o) σ = xiA (cgF tr wl a m o6) σ6 := by
        intro rk W σ2 hrk hA hn2 hx2 hw2 hWlen hsr hold2
        have x2 := hx2.trans x1
        have hB : cgB (cgF tr wl a m (some (.ref x.id))) σ2 = some ((.next, cgF tr wl a m (some (.ref x.id))), σ2.set wl (.list (W ++ [l.ptr]))) := by
          refine xjj (a := 3) rfl ?_ hw2 (by omega)
          unfold cgF
          simp only [xa9, xa3, xap, xaN, xat, List.lookup, List.getElem?_cons_zero, List.getElem?_cons_succ, beq_self_eq_true, x2]
        generalize hσ3 : σ2.set wl (.list (W ++ [l.ptr])) = σ3 at hB
        have o3 : ∀ j, j ≠ wl → σ3.objs j = σ2.objs j := fun j hj => by rw [← hσ3]; exact if_neg hj
        have w3 : σ3.objs wl = .list (W ++ [l.ptr]) := by rw [← hσ3]; exact if_pos rfl
        have n3 : σ3.next = σ2.next := by rw [← hσ3]; rfl
        obtain ⟨σ4, c1, c2, c3, c4⟩ := xrR (tr := tr) (wl := wl) (a := a) (m := m) ((o3 x.id hxwl).trans x2)
        have sx4 : Sub σ4 C'.par (.N (l'.addOff (x.off + c)) { x with b := gap a m (x.b + (x.off + c)), e := gap a m (x.e + (x.off + c)), lim := M + (x.off + c), off := 0 } (r'.addOff rk)) := by
          refine ⟨?_, Sub.of (fun j hj => ?_) e3.2.1, Sub.of (fun j hj => ?_) hsr⟩
          · rw [xbJ, xbJ, kl.2.1, kr.2.1, q1.par]; exact c4
          · rw [xb3, kl.1] at hj
            have h1 : j ≠ x.id := fun q => hd.2.2 _ hj _ (List.mem_cons_self ..) q
            have h2 : j ≠ wl := fun q => hni (List.mem_cons_of_mem _ (by rw [← hPid]; exact hnT.2 _ (by rw [hidsT, xbb, ← q]; exact List.mem_append_left _ hj)))
            rw [c3 j h1, o3 j h2, hold2 j h2 (fun q => hd.2.2 _ hj _ (List.mem_cons_of_mem _ q) rfl)]
          · rw [xb3, kr.1] at hj
            have h1 : j ≠ x.id := fun q => hd2.1 (q ▸ hj)
            have h2 : j ≠ wl := fun q => hni (List.mem_cons_of_mem _ (by rw [← hPid]; exact hnT.2 _ (by rw [hidsT, xbb, ← q]; exact List.mem_append_right _ (List.mem_cons_of_mem _ hj))))
            rw [c3 j h1, o3 j h2]
        have hkid : ∀ (y : Nd) (ra : Int), y.id = x.id → (T.N (l'.addOff (x.off + c)) y (r'.addOff ra)).ids = (T.N l x r).ids := fun y ra hy => by rw [xbb, xbb, xb3, xb3, kl.1, kr.1, hy]
        have hP1 : (C'.plug (.N (l'.addOff (x.off + c)) (Nd.down { x with off := x.off + c, lim := M }) (r'.addOff (x.off + c)))).ids.Nodup := by
          obtain ⟨A, B, h⟩ := xeY C' .E
          rw [h, hkid (Nd.down { x with off := x.off + c, lim := M }) (x.off + c) rfl]
          rw [h, hidsT] at hnodup
          exact hnodup
        have s4 : Sub σ4 .none (C'.plug (.N (l'.addOff (x.off + c)) { x with b := gap a m (x.b + (x.off + c)), e := gap a m (x.e + (x.off + c)), lim := M + (x.off + c), off := 0 } (r'.addOff rk))) := by
          refine (xef (σ' := σ4) C' s1 hP1).2 _ sx4 rfl fun j h1 h2 => ?_
          rw [hkid (Nd.down { x with off := x.off + c, lim := M }) (x.off + c) rfl, xbb] at h2
          simp only [List.mem_append, List.mem_cons, not_or] at h2
          have hj : j ≠ wl := fun q => hwlP (by
            obtain ⟨A, B, h⟩ := xeY C' .E
            rw [h, hkid (Nd.down { x with off := x.off + c, lim := M }) (x.off + c) rfl] at h1
            rw [h, hidsT, ← q]; exact h1)
          rw [c3 j h2.2.1, o3 j hj, hold2 j hj h2.2.2]
        have u4 : (C'.plug (.N (l'.addOff (x.off + c)) { x with b := gap a m (x.b + (x.off + c)), e := gap a m (x.e + (x.off + c)), lim := M + (x.off + c), off := 0 } (r'.addOff rk))).UB := by
          obtain ⟨v1, v2, v3, v4, v5⟩ := hu0.1
          refine hu0.2 _ ⟨?_, ?_, ?_, xdv v4, xdv v5⟩ fun k hk => ?_
          · show gap a m (x.e + (x.off + c)) ≤ M + (x.off + c)
            have : x.e ≤ M := v1
            have := xtd (a := a) (m := m) (x := x.e + (x.off + c)) hm
            omega
          · intro k hk; rw [xdi] at hk; obtain ⟨k', hk', rfl⟩ := Option.map_eq_some_iff.mp hk
            have : k' ≤ M := v2 k' hk'
            show _ ≤ M + (x.off + c); omega
          · intro k hk; rw [xdi] at hk; obtain ⟨k', hk', rfl⟩ := Option.map_eq_some_iff.mp hk
            have : k' ≤ M := v3 k' hk'
            show _ ≤ M + (x.off + c); omega
          · cases hk
            refine ⟨M + (x.off + c), rfl, ?_⟩
            show M + (x.off + c) + 0 ≤ _; omega
        have hP4 : (C'.plug (.N (l'.addOff (x.off + c)) { x with b := gap a m (x.b + (x.off + c)), e := gap a m (x.e + (x.off + c)), lim := M + (x.off + c), off := 0 } (r'.addOff rk))).ids = (C.plug ((T.N l x r).addOff c)).ids := by
          rw [← hPid]
          obtain ⟨A, B, h⟩ := xeY C' .E
          rw [h, h, hkid { x with b := gap a m (x.b + (x.off + c)), e := gap a m (x.e + (x.off + c)), lim := M + (x.off + c), off := 0 } rk rfl, hidsT]
        obtain ⟨σ5, T5, r1, r2, r3, r4, r5, r6⟩ := xsd s4 (by rw [hP4, ← hPid]; exact hnodup) u4
        have hD : xa5 cgD xaC (cgF tr wl a m (some (.ref x.id))) σ4 = some ((.next, cgF tr wl a m (some (.ref x.id))), σ5) := xam (xbx (vs := [.ref x.id]) (σ0 := σ4) rfl r1) rfl
        have hrun := hnode .none σ5 (by rw [hin2, hA]; exact xam hB (c1.trans hD))
        rw [hP4] at r6
        have w5 : σ5.objs wl = .list (W ++ [l.ptr]) := by rw [r6 wl (fun q => hni (List.mem_cons_of_mem _ q)), c3 wl (Ne.symm hxwl)]; exact w3
        have n5 : σ5.next = σ.next := by rw [r2, c2, n3, hn2, e2, n0]
        have old5 : ∀ j, j ≠ wl → j ∉ (C.plug ((T.N l x r).addOff c)).ids → σ5.objs j = σ.objs j := fun j h1 h2 => by
          rw [r6 j h2, c3 j (fun q => h2 (q ▸ hxP)), o3 j h1, hold2 j h1 (fun q => h2 (by rw [← hPid]; exact hnT.2 _ (by rw [hidsT, xbb]; exact List.mem_append_right _ (List.mem_cons_of_mem _ q)))), old1 j h1 h2]
        have hLm5 : Lm (C.plug (.N (l.addOff (x.off + c)) { x with b := gap a m (x.b + (x.off + c)), e := gap a m (x.e + (x.off + c)), off := 0 } (r.addOff rk))) T5 := by
          refine Lm.trans (q1.plug ?_) r4
          exact Lm.N (x := { x with b := gap a m (x.b + (x.off + c)), e := gap a m (x.e + (x.off + c)), off := 0 }) (M + (x.off + c)) (ql.addOff _) (qr.addOff _)
        have hPL : ((Cx.L C { x with b := gap a m (x.b + (x.off + c)), e := gap a m (x.e + (x.off + c)), off := 0 } (r.addOff rk)).plug (l.addOff (x.off + c))).ids = (C.plug ((T.N l x r).addOff c)).ids := by
          show (C.plug (.N _ _ _)).ids = _
          refine hPids _ _ ?_
          rw [xbb, xb3, xb3]
          show _ = (T.N l { x with off := x.off + c } r).ids
          rw [xbb]
        have hg5 : GT σ5 tr ((Cx.L C { x with b := gap a m (x.b + (x.off + c)), e := gap a m (x.e + (x.off + c)), off := 0 } (r.addOff rk)).plug (l.addOff (x.off + c))) := by
          refine ⟨T5, hLm5, r5, ⟨?_, r3, ?_, ?_⟩⟩
          · obtain ⟨cnt, hc⟩ := g3.root
            refine ⟨cnt, ?_⟩
            rw [old5 tr (Ne.symm hwltr) (by rw [← hPid]; exact htr), hc, ((q1.plug q2).keep.2.1.trans (xoA C (s := (T.N l x r).addOff c) (s' := .N (l.addOff (x.off + c)) { x with b := gap a m (x.b + (x.off + c)), e := gap a m (x.e + (x.off + c)), off := 0 } (r.addOff rk)) rfl)).trans hLm5.keep.2.1.symm]
          · rw [hLm5.keep.1]
            have : (C.plug (.N (l.addOff (x.off + c)) { x with b := gap a m (x.b + (x.off + c)), e := gap a m (x.e + (x.off + c)), off := 0 } (r.addOff rk))).ids = (C.plug ((T.N l x r).addOff c)).ids := hPL
            rw [this, ← hPid]; exact g3.nodup
          · intro j hj
            rw [hLm5.keep.1] at hj
            have : (C.plug (.N (l.addOff (x.off + c)) { x with b := gap a m (x.b + (x.off + c)), e := gap a m (x.e + (x.off + c)), off := 0 } (r.addOff rk))).ids = (C.plug ((T.N l x r).addOff c)).ids := hPL
            rw [this, ← hPid] at hj
            rw [n5]; exact g3.lt j hj
        have hzL : ((Cx.L C { x with b := gap a m (x.b + (x.off + c)), e := gap a m (x.e + (x.off + c)), off := 0 } (r.addOff rk)).plug (l.addOff (x.off + c))).nodes.length ≤ 100 := by
          have h1 := congrArg List.length hPL
          simp only [T.ids, List.length_map] at h1
          omega
        obtain ⟨σ6, t2l, o6, f1, f2, f3, f4, f5, f6, f7, f8, f9⟩ := ihl (.L C { x with b := gap a m (x.b + (x.off + c)), e := gap a m (x.e + (x.off + c)), off := 0 } (r.addOff rk)) (x.off + c) σ5 W (some (.ref x.id)) hg5 hzL hp.1 hbeL w5 (by omega) (by rw [hPL]; exact hni) (by rw [n5]; exact hlt)
        rw [hPL] at f8
        exact ⟨σ6, t2l, o6, f1, f2, f3, f4, f5, f6, by rw [f7, n5], fun j h1 h2 => by rw [f8 j h1 h2, old5 j h1 h2], hrun.trans f9⟩
      have hsrE : Sub σ1 (.ref x.id) (r'.addOff (x.off + c)) := e3.2.2
      by_cases hcase : r ≠ .E ∧ a + m < x.b + (x.off + c)
      · -- the right tree slides as a whole
        obtain ⟨hrne, hbig⟩ := hcase
        cases r with
        | E => exact absurd rfl hrne
        | N rl z rr =>
          obtain ⟨rl', rr', Mz, rfl, qrl, qrr⟩ : ∃ rl' rr' Mz, r' = .N rl' { z with lim := Mz } rr' ∧ Lm rl rl' ∧ Lm rr rr' := by
            cases qr with
            | N _ Mz h1 h2 => exact ⟨_, _, Mz, rfl, h1, h2⟩
          have z1 : σ1.objs z.id = .inst 0 [z.num, .int z.b, .int z.e, z.fa, z.ra, .int Mz, .int (z.off + (x.off + c)), .bool z.red, rl'.ptr, rr'.ptr, .ref x.id] := hsrE.1
          have hzx : z.id ≠ x.id := fun q => hd2.1 (by rw [← q, xbb]; simp)
          have hxz := Ne.symm hzx
          have hzwl : z.id ≠ wl := fun q => hni (List.mem_cons_of_mem _ (by rw [← hPid]; exact hnT.2 _ (by rw [hidsT, xbb, xbb, ← q]; simp)))
          have hA : cgA (cgF tr wl a m (some (.ref x.id))) σ1 = some ((.next, cgF tr wl a m (some (.ref x.id))), σ1.set z.id (.inst 0 [z.num, .int z.b, .int z.e, z.fa, z.ra, .int Mz, .int (z.off + (x.off + c) - m), .bool z.red, rl'.ptr, rr'.ptr, .ref x.id])) := by
            unfold cgA cgF
            simp only [xa5, xa7, xb1, xbG, xa9, xa3, xap, xaN, xbO, xda, xhc, xal, xay, xaf, List.lookup, sIf, xaP, xcK, xbV, xai, xbc, xg3, cGt, xcc, xaW, xaC, List.length, List.getElem?_cons_zero, List.getElem?_cons_succ, beq_self_eq_true, List.set, Option.map, Bool.not_false, ↓reduceIte, Nat.reduceAdd, Nat.reduceLT, decide_true, x1, z1, hbig, T.ptr]
          obtain ⟨σ6, t2l, o6, f1, f2, f3, f4, f5, f6, f7, f8, f9⟩ := fin (x.off + c - m) ws _ (by omega) (xam hA rfl) rfl (if_neg hxz) ((if_neg (Ne.symm hzwl)).trans w1) (by omega) (by
            have hnr : (T.N rl' { z with lim := Mz } rr').ids.Nodup := by rw [qr.keep.1]; exact hd2.2
            rw [xbb] at hnr
            have hdr := List.nodup_append.mp hnr
            have hdr2 := List.nodup_cons.mp hdr.2.1
            obtain ⟨_, k2, k3⟩ := hsrE
            refine ⟨(if_pos rfl).trans ?_, Sub.of (fun j hj => if_neg (fun q => hdr.2.2 _ hj _ (List.mem_cons_self ..) q)) k2, Sub.of (fun j hj => if_neg (fun q : j = z.id => hdr2.1 (by show z.id ∈ _; rw [← q]; exact hj))) k3⟩
            show _ = xg2.inst 0 [z.num, .int z.b, .int z.e, z.fa, z.ra, .int Mz, .int (z.off + (x.off + c - m)), .bool z.red, rl'.ptr, rr'.ptr, .ref x.id]
            rw [show z.off + (x.off + c) - m = z.off + (x.off + c - m) by omega]) (fun j h1 h2 => if_neg (fun q => h2 (by rw [q, xbb]; simp)))
          refine ⟨σ6, .N t2l { x with b := gap a m (x.b + (x.off + c)), e := gap a m (x.e + (x.off + c)), off := 0 } ((T.N rl z rr).addOff (x.off + c - m)), o6, f1, by rw [xbb, xbb, f2, xb3], by show Sh.N _ _ _ = Sh.N _ _ _; rw [f3, xcC], rfl, ?_, f6, f7, f8, f9⟩
          rw [hin, List.map_append, List.map_cons]
          show t2l.inord (0 + 0) ++ ⟨x.id, x.num, gap a m (x.b + (x.off + c)) + (0 + 0), gap a m (x.e + (x.off + c)) + (0 + 0)⟩ :: ((T.N rl z rr).addOff (x.off + c - m)).inord (0 + 0) = _
          rw [show (0 : Int) + 0 = 0 by rfl, Int.add_zero, Int.add_zero, f5, xdh, Int.zero_add, show x.off + c - m = x.off + c + (-m) by omega, xh8 (-m)]
          congr 2
          refine List.map_congr_left fun it hit => ?_
          have h1 : x.b + (x.off + c) ≤ it.b := hp2.1 it hit
          have h2 := hbeR it hit
          unfold shI xrQ
          rw [xrK hm (by omega), xrK hm (by omega)]
          rfl
      · have hA : cgA (cgF tr wl a m (some (.ref x.id))) σ1 = some ((.next, cgF tr wl a m (some (.ref x.id))), σ1.set wl (.list (ws ++ [r.ptr]))) := by
          have hap : xb1 (xcs isL xco (xa3 3) (xa9 xaf (xa3 4))) (cgF tr wl a m (some (.ref x.id))) σ1 = some ((.next, cgF tr wl a m (some (.ref x.id))), σ1.set wl (.list (ws ++ [r.ptr]))) := by
            refine xjj (a := 3) rfl ?_ w1 (by omega)
            unfold cgF
            simp only [xa9, xa3, xap, xaN, xaf, List.lookup, List.getElem?_cons_zero, List.getElem?_cons_succ, beq_self_eq_true, x1]
          have ht : (xcK (xaP (xa9 xaf (xa3 4)) (xai xbc xaW)) (xcK (xaP (xa9 xal (xa3 4)) (xai cGt (xbG xda (xa3 1) (xa3 2)))) xbV)) (cgF tr wl a m (some (.ref x.id))) σ1 = some (false, σ1) := by
            unfold cgF
            cases r with
            | E => simp only [xbG, xa9, xa3, xap, xaN, xda, xal, xaf, List.lookup, xaP, xcK, xbV, xai, xbc, xg3, cGt, xcc, xaW, List.getElem?_cons_zero, List.getElem?_cons_succ, beq_self_eq_true, Option.map, Bool.not_true, Bool.false_eq_true, ↓reduceIte, x1, T.ptr]
            | N rl z rr =>
              have hnb : ¬ a + m < x.b + (x.off + c) := fun q => hcase ⟨(fun h => by cases h), q⟩
              simp only [xbG, xa9, xa3, xap, xaN, xda, xal, xaf, List.lookup, xaP, xcK, xbV, xai, xbc, xg3, cGt, xcc, xaW, List.getElem?_cons_zero, List.getElem?_cons_succ, beq_self_eq_true, Option.map, Bool.not_false, Bool.false_eq_true, ↓reduceIte, decide_false, x1, T.ptr, hnb]
          unfold cgA sIf
          rw [ht]
          exact xam hap rfl
        have hxw' : (σ1.set wl (.list (ws ++ [r.ptr]))).objs x.id = σ1.objs x.id := if_neg hxwl
        obtain ⟨σ6, t2l, o6, f1, f2, f3, f4, f5, f6, f7, f8, f9⟩ := fin (x.off + c) (ws ++ [r.ptr]) _ (Int.le_refl _) (xam hA rfl) rfl hxw' (if_pos rfl) (by simp) (Sub.of (fun j hj => by
            rw [xb3, kr.1] at hj
            exact if_neg (fun q => hni (List.mem_cons_of_mem _ (by rw [← hPid]; exact hnT.2 _ (by rw [hidsT, xbb, ← q]; exact List.mem_append_right _ (List.mem_cons_of_mem _ hj)))))) hsrE) (fun j h1 h2 => if_neg h1)
        have hPR : ((Cx.R C t2l { x with b := gap a m (x.b + (x.off + c)), e := gap a m (x.e + (x.off + c)), off := 0 }).plug (r.addOff (x.off + c))).ids = (C.plug ((T.N l x r).addOff c)).ids := by
          show (C.plug (.N _ _ _)).ids = _
          refine hPids _ _ ?_
          rw [xbb, xb3, f2]
          show _ = (T.N l { x with off := x.off + c } r).ids
          rw [xbb]
        have hzR : ((Cx.R C t2l { x with b := gap a m (x.b + (x.off + c)), e := gap a m (x.e + (x.off + c)), off := 0 }).plug (r.addOff (x.off + c))).nodes.length ≤ 100 := by
          have h1 := congrArg List.length hPR
          simp only [T.ids, List.length_map] at h1
          omega
        obtain ⟨σ7, t2r, o7, d1, d2, d3, d4, d5, d6, d7, d8, d9⟩ := ihr (.R C t2l { x with b := gap a m (x.b + (x.off + c)), e := gap a m (x.e + (x.off + c)), off := 0 }) (x.off + c) σ6 ws o6 f1 hzR hp2.2 hbeR f6 (by omega) (by rw [hPR]; exact hni) (by rw [f7]; exact hlt)
        rw [hPR] at d8
        refine ⟨σ7, .N t2l { x with b := gap a m (x.b + (x.off + c)), e := gap a m (x.e + (x.off + c)), off := 0 } t2r, o7, d1, by rw [xbb, xbb, f2, d2], by show Sh.N _ _ _ = Sh.N _ _ _; rw [f3, d3], rfl, ?_, d6, by rw [d7, f7], fun j h1 h2 => by rw [d8 j h1 h2, f8 j h1 h2], f9.trans d9⟩
        rw [hin, List.map_append, List.map_cons]
        show t2l.inord (0 + 0) ++ ⟨x.id, x.num, gap a m (x.b + (x.off + c)) + (0 + 0), gap a m (x.e + (x.off + c)) + (0 + 0)⟩ :: t2r.inord (0 + 0) = _
        rw [show (0 : Int) + 0 = 0 by rfl, Int.add_zero, Int.add_zero, f5, d5]
        rfl
    · -- nothing reaches past the place
      have hin2 : xsw (cgF tr wl a m (some (.ref x.id))) σ1 = some ((.next, cgF tr wl a m (some (.ref x.id))), σ1) := by
        unfold xsw sIf
        rw [htest, show decide (a < M + (x.off + c)) = false from decide_eq_false hlim]
        rfl
      have hord : (T.N (l.addOff (x.off + c)) { x with b := x.b + (x.off + c), e := x.e + (x.off + c), off := 0 } (r.addOff (x.off + c))).inord 0 = (T.N l x r).inord c := by
        rw [hin]
        show (l.addOff _).inord (0 + 0) ++ ⟨x.id, x.num, x.b + (x.off + c) + (0 + 0), x.e + (x.off + c) + (0 + 0)⟩ :: (r.addOff _).inord (0 + 0) = _
        rw [show (0 : Int) + 0 = 0 by rfl, Int.add_zero, Int.add_zero, xdh, xdh, Int.zero_add]
      have hLm : Lm (C.plug (.N (l.addOff (x.off + c)) { x with b := x.b + (x.off + c), e := x.e + (x.off + c), off := 0 } (r.addOff (x.off + c)))) (C'.plug (.N (l'.addOff (x.off + c)) (Nd.down { x with off := x.off + c, lim := M }) (r'.addOff (x.off + c)))) :=
        q1.plug (Lm.N (x := { x with b := x.b + (x.off + c), e := x.e + (x.off + c), off := 0 }) (M + (x.off + c)) (ql.addOff _) (qr.addOff _))
      have hP1 : (C'.plug (.N (l'.addOff (x.off + c)) (Nd.down { x with off := x.off + c, lim := M }) (r'.addOff (x.off + c)))).ids = (C'.plug (.N l' { x with off := x.off + c, lim := M } r')).ids := by
        obtain ⟨A, B, h⟩ := xeY C' .E
        rw [h, h, xbb, xbb, xb3, xb3]; rfl
      refine ⟨σ1, .N (l.addOff (x.off + c)) { x with b := x.b + (x.off + c), e := x.e + (x.off + c), off := 0 } (r.addOff (x.off + c)), some (.ref x.id), ⟨_, hLm, u1, ⟨?_, s1, by rw [hP1]; exact g3.nodup, fun j hj => ?_⟩⟩, by rw [xbb, xbb, xb3, xb3], by show Sh.N _ _ _ = Sh.N _ _ _; rw [xcC, xcC], rfl, ?_, w1, by rw [e2, n0], old1, hnode .none σ1 hin2⟩
      · obtain ⟨cnt, hc⟩ := g3.root
        refine ⟨cnt, ?_⟩
        rw [old1 tr (Ne.symm hwltr) (by rw [← hPid]; exact htr), hc]
        exact congrArg (fun p => xg2.inst 1 [p, PV.int cnt]) (xoA C' rfl)
      · rw [hP1] at hj
        rw [e2, n0]; exact g3.lt j hj
      · rw [hord]
        symm
        have hub' : (T.N l' { x with off := x.off + c, lim := M } r').UB := hu0.1
        have := xu4 (c := 0) (k := m) (a := a) hub' rfl (fun it hit => ?_) (by show M + (x.off + c) + 0 ≤ a; omega)
        · have e0 : (T.N l' { x with off := x.off + c, lim := M } r').inord 0 = (T.N l x r).inord c := by
            show l'.inord (0 + (x.off + c)) ++ ⟨x.id, x.num, x.b + (0 + (x.off + c)), x.e + (0 + (x.off + c))⟩ :: r'.inord (0 + (x.off + c)) = _
            rw [Int.zero_add, hinl, hinr, hin]
          rw [e0] at this
          exact this
        · refine hbe it ?_
          have e0 : (T.N l' { x with off := x.off + c, lim := M } r').inord 0 = (T.N l x r).inord c := by
            show l'.inord (0 + (x.off + c)) ++ ⟨x.id, x.num, x.b + (0 + (x.off + c)), x.e + (0 + (x.off + c))⟩ :: r'.inord (0 + (x.off + c)) = _
            rw [Int.zero_add, hinl, hinr, hin]
          rw [e0] at hit
          exact hit
end
end
section
open PySem
theorem xiU (t : T) : t.addOff 0 = t := by
  cases t with
  | E => rfl
  | N l x r => show T.N l { x with off := x.off + 0 } r = _; rw [Int.add_zero]
theorem xsg {σ : St} {tr : Nat} {t : T} {a m : Int} (h : xkn σ tr t) (hub : t.UB) (hs : t.shape ∈ LS) (hso : xgh (t.inord 0)) (hbe : ∀ it ∈ t.inord 0, it.b ≤ it.e) (hm : 0 < m) :
    ∃ σ' t', xeD [.ref tr, .int a, .int m] σ = some (.none, σ') ∧ xkn σ' tr t' ∧ t'.shape ∈ LS ∧ t'.inord 0 = (t.inord 0).map (xrQ a m) ∧ t'.UB ∧ Far σ t.ids σ' := by
  obtain ⟨cnt, hc⟩ := h.root
  have htlt : tr < σ.next := h.lt _ (List.mem_cons_self ..)
  have hilt : ∀ a ∈ t.ids, a < σ.next := fun a ha => h.lt a (List.mem_cons_of_mem _ ha)
  have hsz : t.nodes.length ≤ 6 := by rw [← T.shape_size]; exact xoc hs
  generalize hσ1 : σ.push (.list [t.ptr]) = σ1
  have n1 : σ1.next = σ.next + 1 := by rw [← hσ1]; rfl
  have o1 : ∀ a, a < σ.next → σ1.objs a = σ.objs a := fun a ha => by rw [← hσ1]; exact if_neg (by omega)
  have w1 : σ1.objs σ.next = .list ([] ++ [t.ptr]) := by rw [← hσ1]; exact if_pos rfl
  have hg : GT σ1 tr (Cx.top.plug (t.addOff 0)) := by
    rw [xiU]
    exact ⟨t, Lm.refl t, hub, ⟨⟨cnt, (o1 tr htlt).trans hc⟩, Sub.of (fun a ha => o1 a (hilt a ha)) h.sub, h.nodup, fun a ha => by rw [n1]; have := h.lt a ha; omega⟩⟩
  have hids : (Cx.top.plug (t.addOff 0)).ids = t.ids := xb3 0 t
  obtain ⟨σ', t2, o', g1, g2, g3, g4, g5, g6, g7, g8, g9⟩ := xrX (tr := tr) (wl := σ.next) (a := a) (m := m) hm t .top 0 σ1 [] none hg (by rw [xiU]; show t.nodes.length ≤ 100; omega) hso hbe w1 (by simp; omega) (by rw [hids]; intro q; have := h.lt _ q; omega) (by rw [n1]; omega)
  obtain ⟨u, k1, k2, k3⟩ := g1
  have kk := k1.keep
  rw [hids] at g8
  have hend : xiA (cgF tr σ.next a m o') σ' = some ((.next, cgF tr σ.next a m o'), σ') := by
    unfold xiA
    rw [xgE]
    have hcnd : xmk (cgF tr σ.next a m o') σ' = some (false, σ') := by
      unfold xmk
      rw [xho (a := 3) (fr := cgF tr σ.next a m o') rfl g6]
      rfl
    rw [hcnd]
    rfl
  refine ⟨σ', u, ?_, k3, by rw [kk.2.2.1]; show t2.shape ∈ LS; rw [g3]; exact hs, by rw [kk.2.2.2]; exact g5, k2, ⟨by rw [g7, n1]; omega, fun j h1 h2 => by rw [g8 j (by omega) h2, o1 j h1]⟩⟩
  unfold xeD xaT
  rw [if_pos (show [PV.ref tr, PV.int a, PV.int m].length = 3 from rfl)]
  show bnd (xfq [some (.ref tr), some (.int a), some (.int m), none, none] σ) _ = _
  rw [xqN]
  have h1 : (sIf (xaP (xa3 2) (xai cLe (xaK 0))) (xa5 xfR xaC) xaC) [some (.ref tr), some (.int a), some (.int m), none, none] σ = some ((.next, [some (.ref tr), some (.int a), some (.int m), none, none]), σ) := by
    have : ¬ m ≤ 0 := by omega
    simp only [xa5, xfR, xa3, xap, sIf, xaP, xai, xg3, cLe, xaC, xaK, List.getElem?_cons_zero, List.getElem?_cons_succ, Bool.false_eq_true, ↓reduceIte, decide_false, this]
  have h2 : xak 3 (xc8 (xa1 (xa9 xbh (xa3 0)) xa8)) [some (.ref tr), some (.int a), some (.int m), none, none] σ = some ((.next, cgF tr σ.next a m none), σ1) := by
    simp only [xak, xa9, xa3, xap, xc8, xnM, xa1, xa8, xaN, xbh, List.lookup, List.length, List.getElem?_cons_zero, beq_self_eq_true, List.set, Option.some.injEq, Prod.mk.injEq, true_and, ↓reduceIte, Nat.reduceAdd, Nat.reduceLeDiff, hc]
    exact ⟨rfl, hσ1⟩
  rw [xam h1 (xav h2 (xav (g9.trans hend) rfl))]
  rfl
end
section
open PySem
def xsL (f : Bool) : List PV := if f then [.tup [.int 103, .bool true]] else []
theorem xkW {σ : St} {pl : Nat} {k : Int} (h : σ.objs pl = .list []) : xbI [.ref pl, .int k] σ = some (.int (-1), σ) := by
  have hr : xad xdE (xa1 (xad xgx (xa1 (xa3 0) xa8)) xa8) [some (.ref pl), some (.int k), none] σ = some (.rng 0 ((([] : List PV).length : Nat) : Int), σ) := by
    simp only [xa3, xap, xad, xa1, xa8, List.length, List.getElem?_cons_zero, xgx, h, xdE]
  have hf : ∀ b, xeE 2 (xad xdE (xa1 (xad xgx (xa1 (xa3 0) xa8)) xa8)) b [some (.ref pl), some (.int k), none] σ = some ((.next, [some (.ref pl), some (.int k), none]), σ) := by
    intro b
    unfold xeE
    rw [hr]
    rfl
  unfold xbI xaT
  show bnd (xdl [some (.ref pl), some (.int k), none] σ) _ = _
  unfold xdl
  rw [xam (hf _) (xb8 (v := .int (-1)) (fr1 := [some (.ref pl), some (.int k), none]) (σ1 := σ) rfl)]
  rfl
theorem xqK {σ : St} {pl : Nat} {k n : Int} {v : PV} (h : σ.objs pl = .list [.tup [.int n, v]]) : xbI [.ref pl, .int k] σ = some (.int (if n = k then 0 else -1), σ) := by
  have hr : xad xdE (xa1 (xad xgx (xa1 (xa3 0) xa8)) xa8) [some (.ref pl), some (.int k), none] σ = some (.rng 0 ((([PV.tup [.int n, v]] : List PV).length : Nat) : Int), σ) := by
    simp only [xa3, xap, xad, xa1, xa8, List.length, List.getElem?_cons_zero, Nat.reduceAdd, xgx, h, xdE]
  have ht : xaP (xbE (xbE (xa3 0) (xa3 2)) (xaK 0)) (xai cEq (xa3 1)) [some (.ref pl), some (.int k), some (.int 0)] σ = some (n == k, σ) := by
    simp only [xa3, xap, xaP, xai, xaK, List.getElem?_cons_zero, List.getElem?_cons_succ, xbE, xhf, h, cEq]
    rfl
  unfold xbI xaT
  show bnd (xdl [some (.ref pl), some (.int k), none] σ) _ = _
  unfold xdl
  by_cases hc : n = k
  · have hf : xeE 2 (xad xdE (xa1 (xad xgx (xa1 (xa3 0) xa8)) xa8)) (xa5 (sIf (xaP (xbE (xbE (xa3 0) (xa3 2)) (xaK 0)) (xai cEq (xa3 1))) (xa5 (xcA (xa3 2)) xaC) xaC) xaC) [some (.ref pl), some (.int k), none] σ = some ((.ret (.int 0), [some (.ref pl), some (.int k), some (.int 0)]), σ) := by
      unfold xeE
      rw [hr]
      show xeN 2 _ [.int 0] _ σ = _
      show bnd (xa5 _ _ [some (.ref pl), some (.int k), some (.int 0)] σ) _ = _
      have : sIf (xaP (xbE (xbE (xa3 0) (xa3 2)) (xaK 0)) (xai cEq (xa3 1))) (xa5 (xcA (xa3 2)) xaC) xaC [some (.ref pl), some (.int k), some (.int 0)] σ = some ((.ret (.int 0), [some (.ref pl), some (.int k), some (.int 0)]), σ) := by
        unfold sIf
        rw [ht, show (n == k) = true from beq_iff_eq.mpr hc]
        rfl
      rw [xb8 this]
      rfl
    rw [xb8 hf, if_pos hc]
    rfl
  · have hf : xeE 2 (xad xdE (xa1 (xad xgx (xa1 (xa3 0) xa8)) xa8)) (xa5 (sIf (xaP (xbE (xbE (xa3 0) (xa3 2)) (xaK 0)) (xai cEq (xa3 1))) (xa5 (xcA (xa3 2)) xaC) xaC) xaC) [some (.ref pl), some (.int k), none] σ = some ((.next, [some (.ref pl), some (.int k), some (.int 0)]), σ) := by
      unfold xeE
      rw [hr]
      show xeN 2 _ [.int 0] _ σ = _
      show bnd (xa5 _ _ [some (.ref pl), some (.int k), some (.int 0)] σ) _ = _
      have : sIf (xaP (xbE (xbE (xa3 0) (xa3 2)) (xaK 0)) (xai cEq (xa3 1))) (xa5 (xcA (xa3 2)) xaC) xaC [some (.ref pl), some (.int k), some (.int 0)] σ = some ((.next, [some (.ref pl), some (.int k), some (.int 0)]), σ) := by
        unfold sIf
        rw [ht, show (n == k) = false from beq_false_of_ne hc]
        rfl
      rw [xam this rfl]
      rfl
    rw [xav hf (xb8 (v := .int (-1)) (fr1 := [some (.ref pl), some (.int k), some (.int 0)]) (σ1 := σ) rfl), if_neg hc]
    rfl
def xtR : PV → Bool
  | .none => true
  | _ => false
def ruO (lp df : Nat) : xg2 := .inst 4 [.ref lp, .none, .bool true, .int 100, .int 101, .int 102, .int 103, .int 104, .ref df]
theorem xoe {σ : St} {pl : Nat} {k : Int} {f : Bool} (h : σ.objs pl = .list (xsL f)) : xcG [.ref pl, .int k] σ = some (if f = true ∧ k = 103 then .tup [.bool true] else .none, σ) := by
  unfold xcG xaT
  show bnd (xfE [some (.ref pl), some (.int k), none] σ) _ = _
  unfold xfE
  cases f with
  | false =>
    have ha : xak 2 (xad xbI (xa1 (xa3 0) (xa1 (xa3 1) xa8))) [some (.ref pl), some (.int k), none] σ = some ((.next, [some (.ref pl), some (.int k), some (.int (-1))]), σ) := by
      unfold xak
      rw [xaj (xb2 (vs := [.ref pl, .int k]) (σ0 := σ) rfl (xkW h))]
      rfl
    rw [xav ha (xb8 (v := .none) (fr1 := [some (.ref pl), some (.int k), some (.int (-1))]) (σ1 := σ) rfl)]
    rfl
  | true =>
    have h' : σ.objs pl = .list [.tup [.int 103, .bool true]] := h
    have ha : xak 2 (xad xbI (xa1 (xa3 0) (xa1 (xa3 1) xa8))) [some (.ref pl), some (.int k), none] σ = some ((.next, [some (.ref pl), some (.int k), some (.int (if (103 : Int) = k then 0 else -1))]), σ) := by
      unfold xak
      rw [xaj (xb2 (vs := [.ref pl, .int k]) (σ0 := σ) rfl (xqK h'))]
      rfl
    by_cases hc : (103 : Int) = k
    · subst hc
      rw [if_pos rfl] at ha
      have hr : xcA (eIf (xaP (xa3 2) (xai cGe (xaK 0))) (xeJ (xa1 (xbE (xbE (xa3 0) (xa3 2)) (xaK 1)) xa8)) xaW) [some (.ref pl), some (.int 103), some (.int 0)] σ = some ((.ret (.tup [.bool true]), [some (.ref pl), some (.int 103), some (.int 0)]), σ) := by
        simp only [xcA, xa3, xap, xeJ, eIf, xa1, xa8, xaP, xai, xg3, cGe, xaW, xaK, List.getElem?_cons_zero, List.getElem?_cons_succ, ↓reduceIte, decide_true, xbE, xhf, h', Int.le_refl]
        rfl
      rw [xav ha (xb8 hr)]
      rfl
    · rw [if_neg hc] at ha
      rw [xav ha (xb8 (v := .none) (fr1 := [some (.ref pl), some (.int k), some (.int (-1))]) (σ1 := σ) rfl), if_neg (fun q => hc q.2.symm)]
      rfl
theorem xp5 {σ : St} {ru ov pl lp df : Nat} {w0 w1 w2 : PV} {f : Bool} (h1 : σ.objs ru = ruO lp df) (h2 : σ.objs ov = .inst 2 [w0, w1, w2, .ref pl]) (h3 : σ.objs pl = .list (xsL f)) : xbw [.ref ru, .ref ov] σ = some (.bool f, σ) := by
  have hv : xfl [.ref ru, .ref pl, .int 103] σ = some (if f then .bool true else .none, σ) := by
    unfold xfl xaT
    show bnd (xgD [some (.ref ru), some (.ref pl), some (.int 103), none, none] σ) _ = _
    unfold xgD
    have ha : xak 3 (xad xcG (xa1 (xa3 1) (xa1 (xa3 2) xa8))) [some (.ref ru), some (.ref pl), some (.int 103), none, none] σ = some ((.next, [some (.ref ru), some (.ref pl), some (.int 103), some (if f = true ∧ (103 : Int) = 103 then .tup [.bool true] else .none), none]), σ) := by
      unfold xak
      rw [xaj (xb2 (vs := [.ref pl, .int 103]) (σ0 := σ) rfl (xoe h3))]
      rfl
    cases f with
    | false =>
      have hb : xak 4 (xad xcG (xa1 (xa3 1) (xa1 (xa9 xcR (xa3 0)) xa8))) [some (.ref ru), some (.ref pl), some (.int 103), some .none, none] σ = some ((.next, [some (.ref ru), some (.ref pl), some (.int 103), some .none, some .none]), σ) := by
        unfold xak
        rw [xaj (xb2 (vs := [.ref pl, .int 100]) (σ0 := σ) (by simp only [xa9, xa3, xap, xa1, xa8, xaN, xcR, List.lookup, List.getElem?_cons_zero, List.getElem?_cons_succ, beq_self_eq_true, h1, ruO]) (xoe h3))]
        rfl
      have hi : sIf (xaP (xa3 3) (xai cIs xaW)) (xa5 (xak 4 (xad xcG (xa1 (xa3 1) (xa1 (xa9 xcR (xa3 0)) xa8))))
    (xa5 (sIf (xcK (xaP (xa3 4) (xai xbc xaW)) (xcK xrN xbV)) (xa5 xrq xaC) xaC) xaC)) xaC [some (.ref ru), some (.ref pl), some (.int 103), some .none, none] σ = some ((.next, [some (.ref ru), some (.ref pl), some (.int 103), some .none, some .none]), σ) := by
        show xa5 _ _ _ σ = _
        exact xav hb rfl
      rw [xav ha (xav hi (xb8 (v := .none) (fr1 := [some (.ref ru), some (.ref pl), some (.int 103), some .none, some .none]) (σ1 := σ) (by simp only [xcA, xa9, xa3, xap, eIf, xaN, xf4, List.lookup, xaP, xai, cIs, xcc, xaW, List.getElem?_cons_zero, List.getElem?_cons_succ, beq_self_eq_true, ↓reduceIte, h1, ruO])))]
      rfl
    | true =>
      rw [xav ha (xam (σ1 := σ) rfl (xb8 (v := .bool true) (fr1 := [some (.ref ru), some (.ref pl), some (.int 103), some (.tup [.bool true]), none]) (σ1 := σ) rfl))]
      rfl
  have hg : xcF [.ref ru, .ref ov, .int 103] σ = some (if f then .bool true else .none, σ) := by
    unfold xcF xaT
    show bnd (xe7 [some (.ref ru), some (.ref ov), some (.int 103)] σ) _ = _
    unfold xe7
    rw [xb8 (v := if f then .bool true else .none) (fr1 := [some (.ref ru), some (.ref ov), some (.int 103)]) (σ1 := σ) (by
      unfold xcA
      rw [xaj (xb2 (vs := [.ref ru, .ref pl, .int 103]) (σ0 := σ) (by simp only [xa9, xa3, xap, xa1, xa8, xaN, xbK, List.lookup, List.getElem?_cons_zero, List.getElem?_cons_succ, beq_self_eq_true, h2]) hv)])]
    rfl
  have hn : ∀ v : PV, (v = .none ∨ v = .bool true) → xaY [.ref ru, v] σ = some (.bool (xtR v), σ) := by
    intro v hv
    have he : xsK [v, .none] σ = some (.bool (xtR v), σ) := by
      rcases hv with rfl | rfl <;> rfl
    unfold xaY xaT
    show bnd (xbX [some (.ref ru), some v] σ) _ = _
    unfold xbX
    rw [xb8 (v := .bool (xtR v)) (fr1 := [some (.ref ru), some v]) (σ1 := σ) (by
      unfold xcA
      rw [xaj (xb2 (vs := [v, .none]) (σ0 := σ) (by simp only [xa9, xa3, xap, xa1, xa8, xaN, xf4, List.lookup, List.getElem?_cons_zero, List.getElem?_cons_succ, beq_self_eq_true, h1, ruO]) he)])]
    rfl
  unfold xbw xaT
  show bnd (xeg [some (.ref ru), some (.ref ov)] σ) _ = _
  unfold xeg
  have hcall : xad xcF (xa1 (xa3 0) (xa1 (xa3 1) (xa1 (xa9 xbH (xa3 0)) xa8))) [some (.ref ru), some (.ref ov)] σ = some (if f then .bool true else .none, σ) := xb2 (vs := [.ref ru, .ref ov, .int 103]) (σ0 := σ) (by simp only [xa9, xa3, xap, xa1, xa8, xaN, xbH, List.lookup, List.getElem?_cons_zero, List.getElem?_cons_succ, beq_self_eq_true, h1, ruO]) hg
  have hown : xn9 4 xaY (xa3 0) (xa1 (xad xcF (xa1 (xa3 0) (xa1 (xa3 1) (xa1 (xa9 xbH (xa3 0)) xa8)))) xa8) [some (.ref ru), some (.ref ov)] σ = some (.bool (!f), σ) := by
    unfold xn9
    show bnd (some (PV.ref ru, σ)) _ = _
    show (if isC 4 (.ref ru) σ = true then _ else _) = _
    have hc : isC 4 (.ref ru) σ = true := by unfold isC; simp only [h1, ruO]; rfl
    rw [if_pos hc]
    unfold xa1
    rw [xaj (xaj hcall)]
    show xaY [.ref ru, _] σ = _
    cases f with
    | false => exact hn _ (.inl rfl)
    | true => exact hn _ (.inr rfl)
  rw [xb8 (v := .bool f) (fr1 := [some (.ref ru), some (.ref ov)]) (σ1 := σ) (by
    unfold xcA xqM
    rw [xaj (xaj hown)]
    cases f <;> rfl)]
  rfl
end
section
open PySem
structure G where
  hm : Nat
  ru : Nat
  tr : Nat
  od : Nat
  ov : Nat → Nat
  nd : Nat → Nat
  pl : Nat → Nat
  tag : Nat → Nat × Nat
  N : Nat
  lv : Nat → Bool
  fl : Nat → Bool
  B : Nat → Int
  E : Nat → Int
def G.it (g : G) (k : Nat) : It := ⟨g.nd k, .int k, g.B k, g.E k⟩
def G.homeOf (g : G) (k : Nat) : PV := if g.lv k then .ref g.hm else .none
def xlZ (k : Nat) (o : xg2) : Prop := ∃ b e fa ra l f r, o = .inst 0 [.int k, .int b, .int e, fa, ra, .int l, .int f, .bool r, .none, .none, .none]
structure PS (σ : St) (g : G) (t : T) : Prop where
  home : σ.objs g.hm = .inst 3 [.ref g.tr, .ref g.od, .ref g.ru]
  rules : ∃ lp df, σ.objs g.ru = ruO lp df
  tree : xkn σ g.tr t
  ub : t.UB
  shape : t.shape ∈ LS
  sorted : xgh (t.inord 0)
  items : ∀ it, it ∈ t.inord 0 ↔ ∃ k, k < g.N ∧ g.lv k = true ∧ it = g.it k
  be : ∀ k, k < g.N → g.lv k = true → g.B k ≤ g.E k
  dict : ∃ D, σ.objs g.od = .dict D ∧ (D.map (·.1)).Nodup ∧ D.length ≤ 100 ∧ (∀ k, k < g.N → g.lv k = true → xil D k = some (.ref (g.ov k))) ∧ ∀ kv ∈ D, ∃ k : Nat, k < g.N ∧ g.lv k = true ∧ kv.1 = k
  over : ∀ k, k < g.N → σ.objs (g.ov k) = .inst 2 [.int k, .ref (g.nd k), g.homeOf k, .ref (g.pl k)]
  plist : ∀ k, k < g.N → σ.objs (g.pl k) = .list (xsL (g.fl k))
  node : ∀ k, k < g.N → g.lv k = false → xlZ k (σ.objs (g.nd k))
  thm : g.tag g.hm = (1, 0)
  tru : g.tag g.ru = (2, 0)
  ttr : g.tag g.tr = (3, 0)
  tod : g.tag g.od = (4, 0)
  tov : ∀ k, k < g.N → g.tag (g.ov k) = (5, k)
  tnd : ∀ k, k < g.N → g.tag (g.nd k) = (6, k)
  tpl : ∀ k, k < g.N → g.tag (g.pl k) = (7, k)
  lhm : g.hm < σ.next
  lru : g.ru < σ.next
  lod : g.od < σ.next
  lov : ∀ k, k < g.N → g.ov k < σ.next
  lnd : ∀ k, k < g.N → g.nd k < σ.next
  lpl : ∀ k, k < g.N → g.pl k < σ.next
structure Unt (g : G) (σ σ' : St) : Prop where
  next : σ.next ≤ σ'.next
  old : ∀ a, a < σ.next → 10 ≤ (g.tag a).1 → σ'.objs a = σ.objs a
theorem Unt.refl {g : G} {σ : St} : Unt g σ σ := ⟨Nat.le_refl _, fun _ _ _ => rfl⟩
theorem Unt.trans {g : G} {σ σ' σ'' : St} (h : Unt g σ σ') (k : Unt g σ' σ'') : Unt g σ σ'' := ⟨Nat.le_trans h.next k.next, fun a h1 h2 => (k.old a (Nat.lt_of_lt_of_le h1 h.next) h2).trans (h.old a h1 h2)⟩
section
variable {σ σ' : St} {g : G} {t t' : T}
theorem PS.tids (P : PS σ g t) {a : Nat} (ha : a ∈ t.ids) : ∃ k, k < g.N ∧ g.lv k = true ∧ a = g.nd k := by
  rw [← T.inord_ids 0] at ha
  obtain ⟨it, h1, rfl⟩ := List.mem_map.mp ha
  obtain ⟨k, h2, h3, rfl⟩ := (P.items it).mp h1
  exact ⟨k, h2, h3, rfl⟩
theorem PS.ndMem (P : PS σ g t) {k : Nat} (hk : k < g.N) (hl : g.lv k = true) : g.nd k ∈ t.ids := by
  rw [← T.inord_ids 0]
  exact List.mem_map.mpr ⟨g.it k, (P.items _).mpr ⟨k, hk, hl, rfl⟩, rfl⟩
theorem PS.ndInj (P : PS σ g t) {k j : Nat} (hk : k < g.N) (hj : j < g.N) (h : g.nd k = g.nd j) : k = j := by
  have h1 := P.tnd k hk
  have h2 := P.tnd j hj
  rw [h, h2] at h1
  exact (congrArg Prod.snd h1).symm
theorem PS.ndNot (P : PS σ g t) {k : Nat} (hk : k < g.N) (hl : g.lv k = false) : g.nd k ∉ t.ids := fun q => by
  obtain ⟨j, h1, h2, h3⟩ := P.tids q
  have := P.ndInj hk h1 h3
  subst this
  rw [hl] at h2; cases h2
theorem PS.far_not (P : PS σ g t) {a : Nat} (h : (g.tag a).1 ≠ 3) (h2 : (g.tag a).1 ≠ 6) : a ∉ g.tr :: t.ids := fun q => by
  rcases List.mem_cons.mp q with q | q
  · rw [q, P.ttr] at h; exact h rfl
  · obtain ⟨k, h1, _, rfl⟩ := P.tids q
    rw [P.tnd k h1] at h2; exact h2 rfl
theorem PS.unt (P : PS σ g t) (F : Far σ (g.tr :: t.ids) σ') : Unt g σ σ' := ⟨F.next, fun a h1 h2 => F.old a h1 (P.far_not (by omega) (by omega))⟩
theorem PS.turn (P : PS σ g t) (F : Far σ (g.tr :: t.ids) σ') (hT : xkn σ' g.tr t') (hub : t'.UB) (hs : t'.shape ∈ LS) (hi : t'.inord 0 = t.inord 0) : PS σ' g t' := by
  have o : ∀ a, a < σ.next → (g.tag a).1 ≠ 3 → (g.tag a).1 ≠ 6 → σ'.objs a = σ.objs a := fun a h1 h2 h3 => F.old a h1 (P.far_not h2 h3)
  obtain ⟨lp, df, hr⟩ := P.rules
  obtain ⟨D, hD⟩ := P.dict
  refine ⟨?_, ⟨lp, df, ?_⟩, hT, hub, hs, by rw [hi]; exact P.sorted, by rw [hi]; exact P.items, P.be, ⟨D, ?_, hD.2⟩, fun k hk => ?_, fun k hk => ?_, fun k hk hl => ?_, P.thm, P.tru, P.ttr, P.tod, P.tov, P.tnd, P.tpl, Nat.lt_of_lt_of_le P.lhm F.next, Nat.lt_of_lt_of_le P.lru F.next, Nat.lt_of_lt_of_le P.lod F.next, fun k hk => Nat.lt_of_lt_of_le (P.lov k hk) F.next, fun k hk => Nat.lt_of_lt_of_le (P.lnd k hk) F.next, fun k hk => Nat.lt_of_lt_of_le (P.lpl k hk) F.next⟩
  · rw [o _ P.lhm (by rw [P.thm]; simp) (by rw [P.thm]; simp)]; exact P.home
  · rw [o _ P.lru (by rw [P.tru]; simp) (by rw [P.tru]; simp)]; exact hr
  · rw [o _ P.lod (by rw [P.tod]; simp) (by rw [P.tod]; simp)]; exact hD.1
  · rw [o _ (P.lov k hk) (by rw [P.tov k hk]; simp) (by rw [P.tov k hk]; simp)]; exact P.over k hk
  · rw [o _ (P.lpl k hk) (by rw [P.tpl k hk]; simp) (by rw [P.tpl k hk]; simp)]; exact P.plist k hk
  · rw [F.old _ (P.lnd k hk) ?_]
    · exact P.node k hk hl
    · intro q
      rcases List.mem_cons.mp q with q | q
      · have h1 := P.tnd k hk
        rw [q, P.ttr] at h1; cases h1
      · exact P.ndNot hk hl q
theorem xo6 {l : List It} (hn : (l.map (·.id)).Nodup) {j : Nat} {y : It} (hj : l[j]? = some y) (x : It) : x ∈ l.eraseIdx j ↔ x ∈ l ∧ x.id ≠ y.id := by
  induction l generalizing j with
  | nil => simp at hj
  | cons z l ih =>
    rw [List.map_cons, List.nodup_cons] at hn
    cases j with
    | zero =>
      cases hj
      show x ∈ l ↔ _
      constructor
      · intro h; exact ⟨List.mem_cons_of_mem _ h, fun q => hn.1 (by rw [← q]; exact List.mem_map_of_mem h)⟩
      · rintro ⟨h, q⟩
        rcases List.mem_cons.mp h with h | h
        · rw [h] at q; exact absurd rfl q
        · exact h
    | succ j =>
      have hj' : l[j]? = some y := by simpa using hj
      show x ∈ z :: l.eraseIdx j ↔ _
      rw [List.mem_cons, List.mem_cons, ih hn.2 hj']
      constructor
      · rintro (rfl | ⟨h1, h2⟩)
        · exact ⟨.inl rfl, fun q => hn.1 (by rw [q]; exact List.mem_map_of_mem (List.mem_of_getElem? hj'))⟩
        · exact ⟨.inr h1, h2⟩
      · rintro ⟨rfl | h1, h2⟩
        · exact .inl rfl
        · exact .inr ⟨h1, h2⟩
theorem xos (D : List (Int × PV)) (k j : Int) (h : j ≠ k) : xil (xm0 D k) j = xil D j := by
  unfold xil xm0
  congr 1
  induction D with
  | nil => rfl
  | cons e D ih =>
    rw [List.filter_cons]
    by_cases q : e.1 = k
    · simp only [q, ne_eq, not_true, decide_false, Bool.false_eq_true, if_false]
      rw [ih, List.find?_cons, show decide (e.1 = j) = false by simp [q, Ne.symm h]]
    · simp only [q, ne_eq, not_false_eq_true, decide_true, if_true]
      rw [List.find?_cons, List.find?_cons, ih]
theorem xlk {D : List (Int × PV)} {k : Int} {v : PV} (h : xil D k = some v) : (k, v) ∈ D := by
  unfold xil at h
  obtain ⟨e, h1, rfl⟩ := Option.map_eq_some_iff.mp h
  have h2 := List.find?_some h1
  have h3 := List.mem_of_find?_eq_some h1
  have : e.1 = k := by simpa using h2
  rw [← this]; exact h3
def G.out (g : G) (k : Nat) : G := { g with lv := fun j => if j = k then false else g.lv j }
theorem xhw (P : PS σ g t) {k : Nat} (hk : k < g.N) (hl : g.lv k = true) : ∃ σ' t', xbA [.ref (g.ov k)] σ = some (.none, σ') ∧ PS σ' (g.out k) t' ∧ Unt g σ σ' ∧ (g.fl = g.fl) := by
  have ho := P.over k hk
  rw [show g.homeOf k = .ref g.hm from if_pos hl] at ho
  obtain ⟨i, hi⟩ := List.mem_iff_getElem?.mp (P.ndMem hk hl)
  obtain ⟨p, σ1, t1, e1, e2, e3, e4, e5, e6, x, b', e', l', o', r', hx, hnode⟩ := xpU P.tree P.ub P.shape hi
  have oo : ∀ a, a < σ.next → (g.tag a).1 ≠ 3 → (g.tag a).1 ≠ 6 → σ1.objs a = σ.objs a := fun a h1 h2 h3 => e6.old a h1 (P.far_not h2 h3)
  have ho1 : σ1.objs (g.ov k) = .inst 2 [.int k, .ref (g.nd k), .ref g.hm, .ref (g.pl k)] := by rw [oo _ (P.lov k hk) (by rw [P.tov k hk]; simp) (by rw [P.tov k hk]; simp)]; exact ho
  have hh1 : σ1.objs g.hm = .inst 3 [.ref g.tr, .ref g.od, .ref g.ru] := by rw [oo _ P.lhm (by rw [P.thm]; simp) (by rw [P.thm]; simp)]; exact P.home
  obtain ⟨D, hD, hDn, hDl, hD1, hD2⟩ := P.dict
  have hd1 : σ1.objs g.od = .dict D := by rw [oo _ P.lod (by rw [P.tod]; simp) (by rw [P.tod]; simp)]; exact hD
  have nvd : g.ov k ≠ g.od := fun q => by have := P.tov k hk; rw [q, P.tod] at this; cases this
  have ndv := Ne.symm nvd
  have hhome := P.home
  have hget := hD1 k hk hl
  generalize hσ3 : (σ1.set g.od (.dict (xm0 D k))).set (g.ov k) (.inst 2 [.int k, .ref (g.nd k), .none, .ref (g.pl k)]) = σ3
  have hrun : xbA [.ref (g.ov k)] σ = some (.none, σ3) := by
    unfold xbA xaT
    show bnd (xeh [some (.ref (g.ov k))] σ) _ = _
    unfold xeh
    have h1 : xaP (xa9 xbn (xa3 0)) (xai xbc xaW) [some (.ref (g.ov k))] σ = some (true, σ) := by simp only [xa9, xa3, xap, xaN, xbn, List.lookup, xaP, xai, xbc, xcc, xaW, List.getElem?_cons_zero, List.getElem?_cons_succ, beq_self_eq_true, Option.map, Bool.not_false, ho]
    have h2 : xb1 (xad xdf (xa1 (xa9 xbv (xa9 xbn (xa3 0))) (xa1 (xa9 xb9 (xa3 0)) xa8))) [some (.ref (g.ov k))] σ = some ((.next, [some (.ref (g.ov k))]), σ1) :=
      xbx (vs := [.ref g.tr, .ref (g.nd k)]) (σ0 := σ) (by simp only [xa9, xa3, xap, xa1, xa8, xaN, xb9, xbn, xbv, List.lookup, List.getElem?_cons_zero, List.getElem?_cons_succ, beq_self_eq_true, ho, hhome]) e1
    have h3 : xb1 (xcs isD xle (xa9 xbf (xa9 xbn (xa3 0))) (xa9 xb6 (xa3 0))) [some (.ref (g.ov k))] σ1 = some ((.next, [some (.ref (g.ov k))]), σ1.set g.od (.dict (xm0 D k))) := by
      simp only [xb1, xa9, xa3, xap, xaN, xb6, xbn, xbf, List.lookup, List.getElem?_cons_zero, List.getElem?_cons_succ, beq_self_eq_true, ↓reduceIte, Nat.reduceBEq, ho1, hh1, xcs, isD, hd1, xle, hget]
    have h4 : xa7 xbn (xa3 0) xaW [some (.ref (g.ov k))] (σ1.set g.od (.dict (xm0 D k))) = some ((.next, [some (.ref (g.ov k))]), σ3) := by
      rw [← hσ3]
      simp only [xa7, xa3, xap, xbO, xao, xbn, List.lookup, xaW, List.length, List.getElem?_cons_zero, beq_self_eq_true, List.set, ↓reduceIte, Nat.reduceAdd, Nat.reduceLT, ho1, nvd]
    have h5 : sIf (xaP (xa9 xbn (xa3 0)) (xai xbc xaW)) (xa5 (xb1 (xad xdf (xa1 (xa9 xbv (xa9 xbn (xa3 0))) (xa1 (xa9 xb9 (xa3 0)) xa8)))) (xa5 (xb1 (xcs isD xle (xa9 xbf (xa9 xbn (xa3 0))) (xa9 xb6 (xa3 0)))) (xa5 (xa7 xbn (xa3 0) xaW) xaC))) xaC [some (.ref (g.ov k))] σ = some ((.next, [some (.ref (g.ov k))]), σ3) := by
      unfold sIf
      rw [h1]
      exact xam h2 (xam h3 (xam h4 rfl))
    rw [xam h5 rfl]
    rfl
  have o3 : ∀ a, a ≠ g.od → a ≠ g.ov k → σ3.objs a = σ1.objs a := fun a h1 h2 => by rw [← hσ3, xao, if_neg h2, xao, if_neg h1]
  have n3 : σ3.next = σ1.next := by rw [← hσ3]; rfl
  have hle : σ.next ≤ σ3.next := by rw [n3]; exact e6.next
  have hod3 : σ3.objs g.od = .dict (xm0 D k) := by rw [← hσ3, xao, if_neg ndv, xao, if_pos rfl]
  have hov3 : σ3.objs (g.ov k) = .inst 2 [.int k, .ref (g.nd k), .none, .ref (g.pl k)] := by rw [← hσ3]; exact if_pos rfl
  have keep : ∀ a, a < σ.next → (g.tag a).1 ≠ 3 → (g.tag a).1 ≠ 6 → a ≠ g.od → a ≠ g.ov k → σ3.objs a = σ.objs a := fun a h1 h2 h3 h4 h5 => (o3 a h4 h5).trans (oo a h1 h2 h3)
  have hyk : (t.inord 0)[i]? = some (g.it k) := by
    have h1 : (t.inord 0)[i]?.map (·.id) = some (g.nd k) := by rw [← List.getElem?_map, T.inord_ids]; exact hi
    obtain ⟨y, h2, h3⟩ := Option.map_eq_some_iff.mp h1
    obtain ⟨j, h4, h5, rfl⟩ := (P.items y).mp (List.mem_of_getElem? h2)
    have : j = k := P.ndInj h4 hk h3
    rw [← this]; exact h2
  have hidn : ((t.inord 0).map (·.id)).Nodup := by rw [T.inord_ids]; exact (List.nodup_cons.mp P.tree.nodup).2
  obtain ⟨lp, df, hr⟩ := P.rules
  have t1sub : ∀ a ∈ g.tr :: t1.ids, a ≠ g.od ∧ a ≠ g.ov k := by
    intro a ha
    have h1 : a ∈ g.tr :: t.ids := by
      rcases List.mem_cons.mp ha with q | q
      · rw [q]; exact List.mem_cons_self ..
      · rw [← T.inord_ids 0, e4] at q
        obtain ⟨it, h2, rfl⟩ := List.mem_map.mp q
        rw [← T.inord_ids 0]
        exact List.mem_cons_of_mem _ (List.mem_map_of_mem ((List.eraseIdx_sublist _ _).subset h2))
    rcases List.mem_cons.mp h1 with q | q
    · rw [q]
      exact ⟨(fun z => by have := P.ttr; rw [z, P.tod] at this; cases this), (fun z => by have := P.ttr; rw [z, P.tov k hk] at this; cases this)⟩
    · obtain ⟨j, h2, _, rfl⟩ := P.tids q
      exact ⟨(fun z => by have := P.tnd j h2; rw [z, P.tod] at this; cases this), (fun z => by have := P.tnd j h2; rw [z, P.tov k hk] at this; cases this)⟩
  refine ⟨σ3, t1, hrun, ⟨?_, ⟨lp, df, ?_⟩, ⟨?_, ?_, e2.nodup, fun a ha => by rw [n3]; exact e2.lt a ha⟩, e5, e3, ?_, fun it => ?_, fun j hj hlj => ?_, ⟨xm0 D k, hod3, ?_, ?_, fun j hj hlj => ?_, fun kv hkv => ?_⟩, fun j hj => ?_, fun j hj => ?_, fun j hj hlj => ?_, P.thm, P.tru, P.ttr, P.tod, P.tov, P.tnd, P.tpl, Nat.lt_of_lt_of_le P.lhm hle, Nat.lt_of_lt_of_le P.lru hle, Nat.lt_of_lt_of_le P.lod hle, fun k hk => Nat.lt_of_lt_of_le (P.lov k hk) hle, fun k hk => Nat.lt_of_lt_of_le (P.lnd k hk) hle, fun k hk => Nat.lt_of_lt_of_le (P.lpl k hk) hle⟩, ⟨hle, fun a h1 h2 => ?_⟩, rfl⟩
  · show σ3.objs g.hm = _
    rw [keep _ P.lhm (by rw [P.thm]; simp) (by rw [P.thm]; simp) (fun z => by have := P.thm; rw [z, P.tod] at this; cases this) (fun z => by have := P.thm; rw [z, P.tov k hk] at this; cases this)]; exact P.home
  · show σ3.objs g.ru = _
    rw [keep _ P.lru (by rw [P.tru]; simp) (by rw [P.tru]; simp) (fun z => by have := P.tru; rw [z, P.tod] at this; cases this) (fun z => by have := P.tru; rw [z, P.tov k hk] at this; cases this)]; exact hr
  · obtain ⟨cnt, hc⟩ := e2.root
    exact ⟨cnt, by show σ3.objs g.tr = _; rw [o3 _ (t1sub _ (List.mem_cons_self ..)).1 (t1sub _ (List.mem_cons_self ..)).2]; exact hc⟩
  · exact Sub.of (fun a ha => o3 a (t1sub a (List.mem_cons_of_mem _ ha)).1 (t1sub a (List.mem_cons_of_mem _ ha)).2) e2.sub
  · rw [e4]; exact P.sorted.sublist (List.eraseIdx_sublist _ _)
  · rw [e4, xo6 hidn hyk, P.items]
    constructor
    · rintro ⟨⟨j, h1, h2, rfl⟩, h3⟩
      refine ⟨j, h1, ?_, rfl⟩
      have : j ≠ k := fun q => h3 (by rw [q])
      show (if j = k then false else g.lv j) = true
      rw [if_neg this]; exact h2
    · rintro ⟨j, h1, h2, rfl⟩
      have h2' : (if j = k then false else g.lv j) = true := h2
      have hjk : j ≠ k := fun q => by rw [if_pos q] at h2'; cases h2'
      rw [if_neg hjk] at h2'
      exact ⟨⟨j, h1, h2', rfl⟩, fun q => hjk (P.ndInj h1 hk q)⟩
  · have h2' : (if j = k then false else g.lv j) = true := hlj
    have hjk : j ≠ k := fun q => by rw [if_pos q] at h2'; cases h2'
    rw [if_neg hjk] at h2'
    exact P.be j hj h2'
  · exact hDn.sublist ((List.filter_sublist (p := _)).map _)
  · exact Nat.le_trans (List.length_filter_le _ _) hDl
  · have h2' : (if j = k then false else g.lv j) = true := hlj
    have hjk : j ≠ k := fun q => by rw [if_pos q] at h2'; cases h2'
    rw [if_neg hjk] at h2'
    rw [xos _ _ _ (by omega)]
    exact hD1 j hj h2'
  · unfold xm0 at hkv
    rw [List.mem_filter] at hkv
    obtain ⟨j, h1, h2, h3⟩ := hD2 kv hkv.1
    refine ⟨j, h1, ?_, h3⟩
    have : j ≠ k := fun q => by have h := hkv.2; rw [h3, q] at h; simp at h
    show (if j = k then false else g.lv j) = true
    rw [if_neg this]; exact h2
  · show σ3.objs (g.ov j) = .inst 2 [.int j, .ref (g.nd j), if (if j = k then false else g.lv j) = true then .ref g.hm else .none, .ref (g.pl j)]
    by_cases q : j = k
    · subst q
      rw [hov3, if_pos rfl]; rfl
    · rw [if_neg q]
      rw [keep _ (P.lov j hj) (by rw [P.tov j hj]; simp) (by rw [P.tov j hj]; simp) (fun z => by have := P.tov j hj; rw [z, P.tod] at this; cases this) (fun z => by have := P.tov j hj; rw [z, P.tov k hk] at this; exact q (congrArg Prod.snd this).symm)]
      exact P.over j hj
  · show σ3.objs (g.pl j) = _
    rw [keep _ (P.lpl j hj) (by rw [P.tpl j hj]; simp) (by rw [P.tpl j hj]; simp) (fun z => by have := P.tpl j hj; rw [z, P.tod] at this; cases this) (fun z => by have := P.tpl j hj; rw [z, P.tov k hk] at this; cases this)]
    exact P.plist j hj
  · have hj' : j < g.N := hj
    have hndo : g.nd j ≠ g.od ∧ g.nd j ≠ g.ov k := ⟨(fun z => by have := P.tnd j hj'; rw [z, P.tod] at this; cases this), (fun z => by have := P.tnd j hj'; rw [z, P.tov k hk] at this; cases this)⟩
    show xlZ j (σ3.objs (g.nd j))
    rw [o3 _ hndo.1 hndo.2]
    by_cases q : j = k
    · subst q
      rw [hnode]
      have hxn : x.num = .int j := by
        have hh : ∀ (t : T) (c : Int) (i : Nat) (x : Nd), t.nodes[i]? = some x → ∃ it, (t.inord c)[i]? = some it ∧ it.num = x.num := by
          intro t
          induction t with
          | E => intro c i x h; simp [T.nodes] at h
          | N l y r ih1 ih2 =>
            intro c i x h
            have h' : (l.nodes ++ y :: r.nodes)[i]? = some x := h
            show ∃ it, (l.inord (c + y.off) ++ _ :: r.inord (c + y.off))[i]? = some it ∧ _
            rcases Nat.lt_or_ge i l.nodes.length with q | q
            · rw [List.getElem?_append_left q] at h'
              rw [List.getElem?_append_left (by rw [T.inord_length]; exact q)]
              exact ih1 _ i x h'
            · rw [List.getElem?_append_right q] at h'
              rw [List.getElem?_append_right (by rw [T.inord_length]; exact q), T.inord_length]
              cases hh : i - l.nodes.length with
              | zero => rw [hh] at h'; cases h'; exact ⟨_, rfl, rfl⟩
              | succ n =>
                rw [hh, List.getElem?_cons_succ] at h'
                rw [List.getElem?_cons_succ]
                exact ih2 _ n x h'
        obtain ⟨it, h1, h2⟩ := hh t 0 i x hx
        rw [hyk] at h1
        cases h1
        rw [← h2]; rfl
      rw [hxn]
      exact ⟨b', e', x.fa, x.ra, l', o', r', rfl⟩
    · have hl' : g.lv j = false := by
        have : (if j = k then false else g.lv j) = false := hlj
        rwa [if_neg q] at this
      rw [e6.old _ (P.lnd j hj') ?_]
      · exact P.node j hj' hl'
      · intro z
        rcases List.mem_cons.mp z with z | z
        · have := P.tnd j hj'; rw [z, P.ttr] at this; cases this
        · exact P.ndNot hj' hl' z
  · refine keep a h1 (by omega) (by omega) (fun z => ?_) (fun z => ?_)
    · rw [z, P.tod] at h2; simp at h2
    · rw [z, P.tov k hk] at h2; simp at h2
theorem xqo {k : Nat} (P : PS σ g t) (hk : k < g.N) (hl : g.lv k = false) : xbA [.ref (g.ov k)] σ = some (.none, σ) := by
  have ho := P.over k hk
  rw [show g.homeOf k = .none from if_neg (by rw [hl]; decide)] at ho
  unfold xbA xaT
  show bnd (xeh [some (.ref (g.ov k))] σ) _ = _
  unfold xeh
  have h1 : xaP (xa9 xbn (xa3 0)) (xai xbc xaW) [some (.ref (g.ov k))] σ = some (false, σ) := by simp only [xa9, xa3, xap, xaN, xbn, List.lookup, xaP, xai, xbc, xcc, xaW, List.getElem?_cons_zero, List.getElem?_cons_succ, beq_self_eq_true, Option.map, Bool.not_true, ho]
  rw [xam (σ1 := σ) (by unfold sIf; rw [h1]; rfl) rfl]
  rfl
end
end
section
open PySem
theorem xiJ : ∀ {l R : List Nat}, l.Nodup → (∀ x ∈ l, x ∈ R) → l.length ≤ R.length
  | [], _, _, _ => Nat.zero_le _
  | x :: l, R, hn, h => by
    rw [List.nodup_cons] at hn
    have hx := h x (List.mem_cons_self ..)
    have := xiJ (l := l) (R := R.erase x) hn.2 fun y hy => by
      have hne : y ≠ x := fun q => hn.1 (q ▸ hy)
      exact (List.mem_erase_of_ne hne).mpr (h y (List.mem_cons_of_mem _ hy))
    rw [List.length_erase_of_mem hx] at this
    have h0 : 0 < R.length := List.length_pos_of_mem hx
    rw [List.length_cons]; omega
section
variable {σ σ' : St} {g : G} {t t' : T}
theorem xpx {N : Nat} {nd : Nat → Nat} {L : List Nat} (hn : L.Nodup) {p : Nat → Prop} (h : ∀ a ∈ L, ∃ k, k < N ∧ p k ∧ a = nd k) {k0 : Nat} (hk0 : k0 < N) (hp : ¬ p k0) : L.length ≤ N - 1 := by
  have ex : ∀ a : {a // a ∈ L}, ∃ k, k < N ∧ p k ∧ a.1 = nd k := fun a => h a.1 a.2
  let f : {a // a ∈ L} → Nat := fun a => Classical.choose (ex a)
  have hf : ∀ a, f a < N ∧ p (f a) ∧ a.1 = nd (f a) := fun a => Classical.choose_spec (ex a)
  have hnd : (L.attach.map f).Nodup := by
    rw [List.nodup_iff_pairwise_ne, List.pairwise_map]
    have himp : ∀ {a b : {a // a ∈ L}}, a.1 ≠ b.1 → f a ≠ f b := fun {a b} hab q => hab (by rw [(hf a).2.2, (hf b).2.2, q])
    refine List.Pairwise.imp (R := fun a b : {a // a ∈ L} => a.1 ≠ b.1) himp ?_
    · have : (L.attach.map (·.1)).Pairwise (· ≠ ·) := by
        have e : L.attach.map (·.1) = L := List.attach_map_subtype_val L
        rw [e]; exact List.nodup_iff_pairwise_ne.mp hn
      exact List.pairwise_map.mp this
  have := xiJ (R := (List.range N).erase k0) hnd fun x hx => by
    obtain ⟨a, _, rfl⟩ := List.mem_map.mp hx
    have h1 := hf a
    exact (List.mem_erase_of_ne (fun q : f a = k0 => hp (by rw [← q]; exact h1.2.1))).mpr (List.mem_range.mpr h1.1)
  rw [List.length_map, List.length_attach, List.length_erase_of_mem (List.mem_range.mpr hk0), List.length_range] at this
  exact this
theorem PS.room (P : PS σ g t) (hN : g.N ≤ 6) {k : Nat} (hk : k < g.N) (hl : g.lv k = false) : t.shape.size ≤ 5 := by
  have := xpx (p := fun k => g.lv k = true) (List.nodup_cons.mp P.tree.nodup).2 (fun a ha => P.tids ha) hk (by rw [hl]; decide)
  rw [T.shape_size]
  simp only [T.ids, List.length_map] at this
  omega
theorem xjy {it x : It} : ∀ {l : List It}, x ∈ xec it l ↔ x = it ∨ x ∈ l
  | [] => by unfold xec; simp
  | y :: l => by
    unfold xec
    split
    · simp
    · rw [List.mem_cons, xjy, List.mem_cons]
      constructor
      · rintro (h | h | h)
        · exact .inr (.inl h)
        · exact .inl h
        · exact .inr (.inr h)
      · rintro (h | h | h)
        · exact .inr (.inl h)
        · exact .inl h
        · exact .inr (.inr h)
theorem xie {it : It} : ∀ {l : List It}, xgh l → xgh (xec it l)
  | [], _ => by unfold xec; exact List.pairwise_singleton _ _
  | y :: l, h => by
    have hp := List.pairwise_cons.mp h
    unfold xec
    split
    · rename_i hle
      refine List.pairwise_cons.mpr ⟨fun z hz => ?_, h⟩
      rcases List.mem_cons.mp hz with rfl | hz
      · exact hle
      · exact Int.le_trans hle (hp.1 z hz)
    · rename_i hgt
      refine List.pairwise_cons.mpr ⟨fun z hz => ?_, xie hp.2⟩
      rcases xjy.mp hz with rfl | hz
      · show y.b ≤ z.b; omega
      · exact hp.1 z hz
def G.lay (g : G) (k : Nat) (b e : Int) : G := { g with lv := fun j => if j = k then true else g.lv j, B := fun j => if j = k then b else g.B j, E := fun j => if j = k then e else g.E j }
theorem xsk (g : G) (k : Nat) (b e : Int) : (g.out k).lay k b e = g.lay k b e := by
  unfold G.lay G.out
  congr 1
  funext j
  dsimp only
  split <;> rfl
noncomputable def xj2 : xa6 → M (FR × xa6) :=
    (xa5 (xa7 xal (xa9 xb9 (xa3 0)) (xad xpk (xa1 (xa3 2) (xa1 (xa3 3) xa8))))
    (xa5 (xa7 xaI (xa9 xb9 (xa3 0)) (xad xhJ (xa1 (xa3 2) (xa1 (xa3 3) xa8))))
    (xa5 (xa7 xbn (xa3 0) (xa3 1))
    (xa5 (xdR (xa9 xbf (xa3 1)) (xa9 xb6 (xa3 0)) (xa3 0))
    (xa5 (xb1 (xad xdM (xa1 (xa9 xbv (xa3 1)) (xa1 (xa9 xb9 (xa3 0)) xa8))))
    xaC)))))
theorem xpV : xri = xa5 (xb1 (xad xbA (xa1 (xa3 0) xa8))) xj2 := rfl
theorem PS.dlen (P : PS σ g t) : ∃ D, σ.objs g.od = .dict D ∧ (D.map (·.1)).Nodup ∧ D.length ≤ g.N ∧ (∀ k, k < g.N → g.lv k = true → xil D k = some (.ref (g.ov k))) ∧ ∀ kv ∈ D, ∃ k : Nat, k < g.N ∧ g.lv k = true ∧ kv.1 = k := by
  obtain ⟨D, h1, h2, h3, h4, h5⟩ := P.dict
  refine ⟨D, h1, h2, ?_, h4, h5⟩
  have hnn : (D.map (fun kv => kv.1.toNat)).Nodup := by
    rw [List.nodup_iff_pairwise_ne, List.pairwise_map] at h2 ⊢
    refine List.Pairwise.imp_of_mem (fun {a b} ha hb hab q => hab ?_) h2
    obtain ⟨i, _, _, hi⟩ := h5 a ha
    obtain ⟨j, _, _, hj⟩ := h5 b hb
    rw [hi, hj] at q ⊢
    simp at q
    rw [q]
  have := xiJ (R := List.range g.N) hnn fun x hx => by
    obtain ⟨kv, hkv, rfl⟩ := List.mem_map.mp hx
    obtain ⟨i, hi, _, e⟩ := h5 kv hkv
    rw [e]; simpa using hi
  rw [List.length_map, List.length_range] at this
  exact this
theorem xoS (P : PS σ g t) (hN : g.N ≤ 6) {k : Nat} (hk : k < g.N) (hl : g.lv k = false) {b e : Int} (hbe : b ≤ e) :
    ∃ σ' t', xj2 [some (.ref (g.ov k)), some (.ref g.hm), some (.int b), some (.int e)] σ = some ((.next, [some (.ref (g.ov k)), some (.ref g.hm), some (.int b), some (.int e)]), σ') ∧ PS σ' (g.lay k b e) t' ∧ Unt g σ σ' := by
  have ho := P.over k hk
  rw [show g.homeOf k = .none from if_neg (by rw [hl]; decide)] at ho
  have hh := P.home
  obtain ⟨b0, e0, fa, ra, l0, f0, r0, hnode⟩ := P.node k hk hl
  obtain ⟨D, hD, hDn, hDl, hD1, hD2⟩ := P.dlen
  have hknot : ∀ kv ∈ D, kv.1 ≠ (k : Int) := fun kv hkv q => by
    obtain ⟨j, _, h2, h3⟩ := hD2 kv hkv
    rw [h3] at q
    have : j = k := by omega
    rw [this, hl] at h2; cases h2
  have hany : D.any (fun kv => decide (kv.1 = (k : Int))) = false := by
    rw [List.any_eq_false]; intro kv hkv; simpa using hknot kv hkv
  have hdset : xmy D (k : Int) (.ref (g.ov k)) = D ++ [((k : Int), .ref (g.ov k))] := by unfold xmy; rw [hany]; rfl
  have n1 : g.nd k ≠ g.ov k := fun z => by have := P.tnd k hk; rw [z, P.tov k hk] at this; cases this
  have n2 : g.nd k ≠ g.hm := fun z => by have := P.tnd k hk; rw [z, P.thm] at this; cases this
  have n3 : g.nd k ≠ g.od := fun z => by have := P.tnd k hk; rw [z, P.tod] at this; cases this
  have n4 : g.ov k ≠ g.hm := fun z => by have := P.tov k hk; rw [z, P.thm] at this; cases this
  have n5 : g.ov k ≠ g.od := fun z => by have := P.tov k hk; rw [z, P.tod] at this; cases this
  have n6 : g.hm ≠ g.od := fun z => by have := P.thm; rw [z, P.tod] at this; cases this
  have m1 := Ne.symm n1
  have m2 := Ne.symm n2
  have m3 := Ne.symm n3
  have m4 := Ne.symm n4
  have m5 := Ne.symm n5
  have m6 := Ne.symm n6
  have hmin : (if e < b then e else b) = b := if_neg (by omega)
  have hmax : (if e > b then e else b) = e := by split <;> omega
  have hDl' : D.length < 1000 := by omega
  generalize hσ1 : ((σ.set (g.nd k) (.inst 0 [.int k, .int b, .int e, fa, ra, .int l0, .int f0, .bool r0, .none, .none, .none])).set (g.ov k) (.inst 2 [.int k, .ref (g.nd k), .ref g.hm, .ref (g.pl k)])).set g.od (.dict (D ++ [((k : Int), .ref (g.ov k))])) = σ1
  have o1 : ∀ a, a ≠ g.nd k → a ≠ g.ov k → a ≠ g.od → σ1.objs a = σ.objs a := fun a h1 h2 h3 => by rw [← hσ1, xao, if_neg h3, xao, if_neg h2, xao, if_neg h1]
  have nx1 : σ1.next = σ.next := by rw [← hσ1]; rfl
  have on1 : σ1.objs (g.nd k) = .inst 0 [.int k, .int b, .int e, fa, ra, .int l0, .int f0, .bool r0, .none, .none, .none] := by rw [← hσ1, xao, if_neg n3, xao, if_neg n1, xao, if_pos rfl]
  have ov1 : σ1.objs (g.ov k) = .inst 2 [.int k, .ref (g.nd k), .ref g.hm, .ref (g.pl k)] := by rw [← hσ1, xao, if_neg n5, xao, if_pos rfl]
  have od1 : σ1.objs g.od = .dict (D ++ [((k : Int), .ref (g.ov k))]) := by rw [← hσ1]; exact if_pos rfl
  have hh1 : σ1.objs g.hm = .inst 3 [.ref g.tr, .ref g.od, .ref g.ru] := by rw [o1 _ m2 m4 n6]; exact hh
  have tnot : ∀ a ∈ g.tr :: t.ids, a ≠ g.nd k ∧ a ≠ g.ov k ∧ a ≠ g.od := by
    intro a ha
    rcases List.mem_cons.mp ha with q | q
    · rw [q]
      exact ⟨(fun z => by have := P.ttr; rw [z, P.tnd k hk] at this; cases this), (fun z => by have := P.ttr; rw [z, P.tov k hk] at this; cases this), (fun z => by have := P.ttr; rw [z, P.tod] at this; cases this)⟩
    · obtain ⟨j, h2, h3, rfl⟩ := P.tids q
      exact ⟨(fun z => by have := P.ndInj h2 hk z; rw [this, hl] at h3; cases h3), (fun z => by have := P.tnd j h2; rw [z, P.tov k hk] at this; cases this), (fun z => by have := P.tnd j h2; rw [z, P.tod] at this; cases this)⟩
  have hT1 : xkn σ1 g.tr t := by
    obtain ⟨cnt, hc⟩ := P.tree.root
    refine ⟨⟨cnt, ?_⟩, Sub.of (fun a ha => ?_) P.tree.sub, P.tree.nodup, fun a ha => by rw [nx1]; exact P.tree.lt a ha⟩
    · have := tnot _ (List.mem_cons_self ..); rw [o1 _ this.1 this.2.1 this.2.2]; exact hc
    · have := tnot a (List.mem_cons_of_mem _ ha); rw [o1 _ this.1 this.2.1 this.2.2]
  obtain ⟨p, σ2, t2, e1, e2, e3, e4, e5, e6⟩ := xru hT1 P.ub P.shape (P.room hN hk hl) (fun q => (tnot _ q).1 rfl) (by rw [nx1]; exact P.lnd k hk) on1 P.sorted
  have hrun : xj2 [some (.ref (g.ov k)), some (.ref g.hm), some (.int b), some (.int e)] σ = some ((.next, [some (.ref (g.ov k)), some (.ref g.hm), some (.int b), some (.int e)]), σ2) := by
    unfold xj2
    refine xam (σ1 := σ.set (g.nd k) (.inst 0 [.int k, .int b, .int e0, fa, ra, .int l0, .int f0, .bool r0, .none, .none, .none])) ?_ (xam (σ1 := σ.set (g.nd k) (.inst 0 [.int k, .int b, .int e, fa, ra, .int l0, .int f0, .bool r0, .none, .none, .none])) ?_ (xam (σ1 := (σ.set (g.nd k) (.inst 0 [.int k, .int b, .int e, fa, ra, .int l0, .int f0, .bool r0, .none, .none, .none])).set (g.ov k) (.inst 2 [.int k, .ref (g.nd k), .ref g.hm, .ref (g.pl k)])) ?_ (xam (σ1 := σ1) ?_ (xam (xbx (vs := [.ref g.tr, .ref (g.nd k)]) (σ0 := σ1) ?_ e1) rfl))))
    · simp only [xa7, xa9, xa3, xap, xad, xa1, xa8, xaN, xbO, xal, xb9, List.lookup, xpk, List.length, List.getElem?_cons_zero, List.getElem?_cons_succ, beq_self_eq_true, List.set, Option.some.injEq, Prod.mk.injEq, true_and, ↓reduceIte, Nat.reduceAdd, Nat.reduceLT, ho, hnode]
      rw [hmin]
    · simp only [xa7, xa9, xa3, xap, xad, xa1, xa8, xaN, xbO, xao, xgZ, xaI, xb9, List.lookup, xhJ, List.length, List.getElem?_cons_zero, List.getElem?_cons_succ, beq_self_eq_true, List.set, Option.some.injEq, Prod.mk.injEq, true_and, ↓reduceIte, Nat.reduceAdd, Nat.reduceLT, ho, hnode, m1, n1]
      rw [hmax]
    · simp only [xa7, xa3, xap, xbO, xao, xbn, List.lookup, List.length, List.getElem?_cons_zero, List.getElem?_cons_succ, beq_self_eq_true, List.set, ↓reduceIte, Nat.reduceAdd, Nat.reduceLT, ho, hnode, m1, n1]
    · rw [← hσ1]
      simp only [xa9, xa3, xap, xaN, xao, xb6, xbf, List.lookup, List.getElem?_cons_zero, List.getElem?_cons_succ, beq_self_eq_true, ↓reduceIte, Nat.reduceBEq, xdR, xjw, hh, m2, m4, hD, m3, m5, hDl', hdset, ho, n1, m1]
    · simp only [xa9, xa3, xap, xa1, xa8, xaN, xb9, xbv, List.lookup, List.getElem?_cons_zero, List.getElem?_cons_succ, beq_self_eq_true, hh1, ov1]
  have oo : ∀ a, a < σ.next → (g.tag a).1 ≠ 3 → (g.tag a).1 ≠ 6 → a ≠ g.ov k → a ≠ g.od → σ2.objs a = σ.objs a := fun a h1 h2 h3 h4 h5 => by
    have hnk : a ≠ g.nd k := fun z => h3 (by rw [z, P.tnd k hk])
    rw [e6.old a (by rw [nx1]; exact h1) (fun q => by
      rcases List.mem_cons.mp q with q | q
      · exact hnk q
      · exact P.far_not h2 h3 q), o1 a hnk h4 h5]
  have hle : σ.next ≤ σ2.next := by have := e6.next; rw [nx1] at this; exact this
  obtain ⟨lp, df, hr⟩ := P.rules
  have ov2 : σ2.objs (g.ov k) = .inst 2 [.int k, .ref (g.nd k), .ref g.hm, .ref (g.pl k)] := by
    rw [e6.old _ (by rw [nx1]; exact P.lov k hk) (fun q => by
      rcases List.mem_cons.mp q with q | q
      · exact m1 q
      · exact (tnot _ q).2.1 rfl)]; exact ov1
  have od2 : σ2.objs g.od = .dict (D ++ [((k : Int), .ref (g.ov k))]) := by
    rw [e6.old _ (by rw [nx1]; exact P.lod) (fun q => by
      rcases List.mem_cons.mp q with q | q
      · exact m3 q
      · exact (tnot _ q).2.2 rfl)]; exact od1
  refine ⟨σ2, t2, hrun, ⟨?_, ⟨lp, df, ?_⟩, e2, e5, e3, by rw [e4]; exact xie P.sorted, fun it => ?_, fun j hj hlj => ?_, ⟨_, od2, ?_, by rw [List.length_append, List.length_singleton]; omega, fun j hj hlj => ?_, fun kv hkv => ?_⟩, fun j hj => ?_, fun j hj => ?_, fun j hj hlj => ?_, P.thm, P.tru, P.ttr, P.tod, P.tov, P.tnd, P.tpl, Nat.lt_of_lt_of_le P.lhm hle, Nat.lt_of_lt_of_le P.lru hle, Nat.lt_of_lt_of_le P.lod hle, fun k hk => Nat.lt_of_lt_of_le (P.lov k hk) hle, fun k hk => Nat.lt_of_lt_of_le (P.lnd k hk) hle, fun k hk => Nat.lt_of_lt_of_le (P.lpl k hk) hle⟩, ⟨hle, fun a h1 h2 => ?_⟩⟩
  · show σ2.objs g.hm = _
    rw [oo _ P.lhm (by rw [P.thm]; simp) (by rw [P.thm]; simp) m4 n6]; exact hh
  · show σ2.objs g.ru = _
    rw [oo _ P.lru (by rw [P.tru]; simp) (by rw [P.tru]; simp) (fun z => by have := P.tru; rw [z, P.tov k hk] at this; cases this) (fun z => by have := P.tru; rw [z, P.tod] at this; cases this)]; exact hr
  · rw [e4, xjy, P.items]
    constructor
    · rintro (rfl | ⟨j, h1, h2, rfl⟩)
      · refine ⟨k, hk, if_pos rfl, ?_⟩
        show It.mk _ _ _ _ = It.mk _ _ (if k = k then b else g.B k) (if k = k then e else g.E k)
        rw [if_pos rfl, if_pos rfl]; rfl
      · have : j ≠ k := fun q => by rw [q, hl] at h2; cases h2
        refine ⟨j, h1, by show (if j = k then true else g.lv j) = true; rw [if_neg this]; exact h2, ?_⟩
        show It.mk _ _ _ _ = It.mk _ _ (if j = k then b else g.B j) (if j = k then e else g.E j)
        rw [if_neg this, if_neg this]; rfl
    · rintro ⟨j, h1, h2, rfl⟩
      by_cases q : j = k
      · subst q
        refine .inl ?_
        show It.mk _ _ (if j = j then b else g.B j) (if j = j then e else g.E j) = It.mk _ _ _ _
        rw [if_pos rfl, if_pos rfl]; rfl
      · have h2' : (if j = k then true else g.lv j) = true := h2
        rw [if_neg q] at h2'
        refine .inr ⟨j, h1, h2', ?_⟩
        show It.mk _ _ (if j = k then b else g.B j) (if j = k then e else g.E j) = It.mk _ _ _ _
        rw [if_neg q, if_neg q]; rfl
  · show (if j = k then b else g.B j) ≤ (if j = k then e else g.E j)
    by_cases q : j = k
    · rw [if_pos q, if_pos q]; exact hbe
    · rw [if_neg q, if_neg q]
      have h2' : (if j = k then true else g.lv j) = true := hlj
      rw [if_neg q] at h2'
      exact P.be j hj h2'
  · rw [List.map_append]
    refine List.nodup_append.mpr ⟨hDn, by simp, fun a ha c hc => ?_⟩
    have : c = (k : Int) := by simpa using hc
    rw [this]
    obtain ⟨kv, hkv, rfl⟩ := List.mem_map.mp ha
    exact hknot kv hkv
  · by_cases q : j = k
    · subst q
      have hno : D.find? (fun kv => decide (kv.1 = (j : Int))) = none := by
        rw [List.find?_eq_none]; intro kv hkv; simpa using hknot kv hkv
      unfold xil
      rw [List.find?_append, hno]
      simp
      rfl
    · have h2' : (if j = k then true else g.lv j) = true := hlj
      rw [if_neg q] at h2'
      have h3 := hD1 j hj h2'
      unfold xil at h3 ⊢
      obtain ⟨e', h4, h5⟩ := Option.map_eq_some_iff.mp h3
      rw [List.find?_append, h4]
      show some e'.2 = _
      rw [h5]; rfl
  · rcases List.mem_append.mp hkv with q | q
    · obtain ⟨j, h1, h2, h3⟩ := hD2 kv q
      refine ⟨j, h1, ?_, h3⟩
      show (if j = k then true else g.lv j) = true
      split
      · rfl
      · exact h2
    · rw [List.mem_singleton.mp q]
      exact ⟨k, hk, if_pos rfl, rfl⟩
  · show σ2.objs (g.ov j) = .inst 2 [.int j, .ref (g.nd j), if (if j = k then true else g.lv j) = true then .ref g.hm else .none, .ref (g.pl j)]
    by_cases q : j = k
    · subst q
      rw [ov2, if_pos (if_pos rfl)]
    · rw [if_neg q, oo _ (P.lov j hj) (by rw [P.tov j hj]; simp) (by rw [P.tov j hj]; simp) (fun z => by have := P.tov j hj; rw [z, P.tov k hk] at this; exact q (congrArg Prod.snd this).symm) (fun z => by have := P.tov j hj; rw [z, P.tod] at this; cases this)]
      exact P.over j hj
  · show σ2.objs (g.pl j) = _
    rw [oo _ (P.lpl j hj) (by rw [P.tpl j hj]; simp) (by rw [P.tpl j hj]; simp) (fun z => by have := P.tpl j hj; rw [z, P.tov k hk] at this; cases this) (fun z => by have := P.tpl j hj; rw [z, P.tod] at this; cases this)]
    exact P.plist j hj
  · have hj' : j < g.N := hj
    have hlj' : (if j = k then true else g.lv j) = false := hlj
    have q : j ≠ k := fun q => by rw [if_pos q] at hlj'; cases hlj'
    rw [if_neg q] at hlj'
    have hnn : g.nd j ≠ g.nd k := fun z => q (P.ndInj hj' hk z)
    have h1 : g.nd j ≠ g.ov k := fun z => by have := P.tnd j hj'; rw [z, P.tov k hk] at this; cases this
    have h2 : g.nd j ≠ g.od := fun z => by have := P.tnd j hj'; rw [z, P.tod] at this; cases this
    show xlZ j (σ2.objs (g.nd j))
    rw [e6.old _ (by rw [nx1]; exact P.lnd j hj') (fun z => by
      rcases List.mem_cons.mp z with z | z
      · exact hnn z
      · rcases List.mem_cons.mp z with z | z
        · have := P.tnd j hj'; rw [z, P.ttr] at this; cases this
        · exact P.ndNot hj' hlj' z), o1 _ hnn h1 h2]
    exact P.node j hj' hlj'
  · refine oo a h1 (by omega) (by omega) (fun z => ?_) (fun z => ?_)
    · rw [z, P.tov k hk] at h2; simp at h2
    · rw [z, P.tod] at h2; simp at h2
theorem xoL (P : PS σ g t) (hN : g.N ≤ 6) {k : Nat} (hk : k < g.N) {b e : Int} (hbe : b ≤ e) :
    ∃ σ' t', xlP [.ref (g.ov k), .ref g.hm, .int b, .int e] σ = some (.none, σ') ∧ PS σ' (g.lay k b e) t' ∧ Unt g σ σ' := by
  have hrun : ∀ σ1 σ2, xbA [.ref (g.ov k)] σ = some (.none, σ1) → xj2 [some (.ref (g.ov k)), some (.ref g.hm), some (.int b), some (.int e)] σ1 = some ((.next, [some (.ref (g.ov k)), some (.ref g.hm), some (.int b), some (.int e)]), σ2) → xlP [.ref (g.ov k), .ref g.hm, .int b, .int e] σ = some (.none, σ2) := by
    intro σ1 σ2 h1 h2
    unfold xlP xaT
    show bnd (xri [some (.ref (g.ov k)), some (.ref g.hm), some (.int b), some (.int e)] σ) _ = _
    rw [xpV, xam (xbx (vs := [.ref (g.ov k)]) (σ0 := σ) rfl h1) h2]
    rfl
  cases hl : g.lv k with
  | false =>
    obtain ⟨σ', t', h1, h2, h3⟩ := xoS P hN hk hl hbe
    exact ⟨σ', t', hrun σ σ' (xqo P hk hl) h1, h2, h3⟩
  | true =>
    obtain ⟨σ1, t1, a1, a2, a3, _⟩ := xhw P hk hl
    obtain ⟨σ', t', h1, h2, h3⟩ := xoS a2 hN (k := k) hk (if_pos rfl) hbe
    rw [xsk] at h2
    exact ⟨σ', t', hrun σ1 σ' a1 h1, h2, a3.trans ⟨h3.next, fun a h4 h5 => h3.old a h4 h5⟩⟩
end
end
section
open PySem
section
variable {σ σ' : St} {g : G} {t t' : T}
theorem PS.at_ (P : PS σ g t) {k : Nat} (hk : k < g.N) (hl : g.lv k = true) : ∃ i : Nat, t.ids[i]? = some (g.nd k) ∧ (t.inord 0)[i]? = some (g.it k) := by
  obtain ⟨i, hi⟩ := List.mem_iff_getElem?.mp (P.ndMem hk hl)
  refine ⟨i, hi, ?_⟩
  have h1 : (t.inord 0)[i]?.map (·.id) = some (g.nd k) := by rw [← List.getElem?_map, T.inord_ids]; exact hi
  obtain ⟨y, h2, h3⟩ := Option.map_eq_some_iff.mp h1
  obtain ⟨j, h4, h5, rfl⟩ := (P.items y).mp (List.mem_of_getElem? h2)
  have : j = k := P.ndInj h4 hk h3
  rw [← this]; exact h2
theorem xku (P : PS σ g t) {k : Nat} (hk : k < g.N) (hl : g.lv k = true) : ∃ σ' t', xbt [.ref (g.ov k)] σ = some (.int (g.B k), σ') ∧ PS σ' g t' ∧ Unt g σ σ' := by
  obtain ⟨i, h1, h2⟩ := P.at_ hk hl
  have ho := P.over k hk
  obtain ⟨p, σ', t', e1, e2, e3, e4, e5, e6, it, w0, w3, w4, w5, w6, w7, w8, w9, w10, e7, e8⟩ := xqb P.tree P.ub P.shape h1
  rw [h2] at e7
  cases e7
  have ho' : σ'.objs (g.ov k) = .inst 2 [.int k, .ref (g.nd k), g.homeOf k, .ref (g.pl k)] := by rw [e6.old _ (P.lov k hk) (P.far_not (by rw [P.tov k hk]; simp) (by rw [P.tov k hk]; simp))]; exact ho
  refine ⟨σ', t', ?_, P.turn e6 e2 e5 e3 e4, P.unt e6⟩
  unfold xbt xaT
  show bnd (xdx [some (.ref (g.ov k))] σ) _ = _
  unfold xdx
  rw [xam (xbx (vs := [.ref (g.nd k)]) (σ0 := σ) (by simp only [xa9, xa3, xap, xa1, xa8, xaN, xb9, List.lookup, List.getElem?_cons_zero, List.getElem?_cons_succ, beq_self_eq_true, ho]) e1) (xb8 (v := .int (g.B k)) (fr1 := [some (.ref (g.ov k))]) (σ1 := σ') (by simp only [xcA, xa9, xa3, xap, xaN, xal, xb9, List.lookup, List.getElem?_cons_zero, List.getElem?_cons_succ, beq_self_eq_true, Option.some.injEq, Prod.mk.injEq, ho', e8]; exact ⟨⟨rfl, trivial⟩, trivial⟩))]
  rfl
theorem xov (P : PS σ g t) {k : Nat} (hk : k < g.N) (hl : g.lv k = true) : ∃ σ' t', xbR [.ref (g.ov k)] σ = some (.int (g.E k), σ') ∧ PS σ' g t' ∧ Unt g σ σ' := by
  obtain ⟨i, h1, h2⟩ := P.at_ hk hl
  have ho := P.over k hk
  obtain ⟨p, σ', t', e1, e2, e3, e4, e5, e6, it, w0, w3, w4, w5, w6, w7, w8, w9, w10, e7, e8⟩ := xqb P.tree P.ub P.shape h1
  rw [h2] at e7
  cases e7
  have ho' : σ'.objs (g.ov k) = .inst 2 [.int k, .ref (g.nd k), g.homeOf k, .ref (g.pl k)] := by rw [e6.old _ (P.lov k hk) (P.far_not (by rw [P.tov k hk]; simp) (by rw [P.tov k hk]; simp))]; exact ho
  refine ⟨σ', t', ?_, P.turn e6 e2 e5 e3 e4, P.unt e6⟩
  unfold xbR xaT
  show bnd (xeb [some (.ref (g.ov k))] σ) _ = _
  unfold xeb
  rw [xam (xbx (vs := [.ref (g.nd k)]) (σ0 := σ) (by simp only [xa9, xa3, xap, xa1, xa8, xaN, xb9, List.lookup, List.getElem?_cons_zero, List.getElem?_cons_succ, beq_self_eq_true, ho]) e1) (xb8 (v := .int (g.E k)) (fr1 := [some (.ref (g.ov k))]) (σ1 := σ') (by simp only [xcA, xa9, xa3, xap, xaN, xaI, xb9, List.lookup, List.getElem?_cons_zero, List.getElem?_cons_succ, beq_self_eq_true, Option.some.injEq, Prod.mk.injEq, ho', e8]; exact ⟨⟨rfl, trivial⟩, trivial⟩))]
  rfl
theorem PS.fleet (P : PS σ g t) {k : Nat} (hk : k < g.N) : xbw [.ref g.ru, .ref (g.ov k)] σ = some (.bool (g.fl k), σ) := by
  obtain ⟨lp, df, hr⟩ := P.rules
  exact xp5 hr (P.over k hk) (P.plist k hk)
def G.gone (g : G) (k : Nat) (c : Bool) : G := { g with lv := fun j => if j = k then g.lv j && !c else g.lv j }
theorem xjs (g : G) (k : Nat) : g.gone k true = g.out k := by
  unfold G.gone G.out
  congr 1
  funext j
  split
  · simp
  · rfl
theorem xhW (g : G) (k : Nat) : g.gone k false = g := by
  unfold G.gone
  have : (fun j => if j = k then g.lv j && !false else g.lv j) = g.lv := by
    funext j; split <;> simp
  rw [this]
theorem xpa (P : PS σ g t) (hN : g.N ≤ 6) {k : Nat} (hk : k < g.N) {b e : Int} (hbe : b ≤ e) :
    ∃ σ' t', xc6 [.ref (g.ov k), .ref g.hm, .int b, .int e] σ = some (.none, σ') ∧ PS σ' ((g.lay k b e).gone k (decide (b = e) && g.fl k)) t' ∧ Unt g σ σ' := by
  obtain ⟨σ1, t1, h1, h2, h3⟩ := xoL P hN hk hbe
  have hh := h2.home
  have hf := h2.fleet (k := k) hk
  have hc1 : xb1 (xad xlP (xa1 (xa3 0) (xa1 (xa3 1) (xa1 (xa3 2) (xa1 (xa3 3) xa8))))) [some (.ref (g.ov k)), some (.ref g.hm), some (.int b), some (.int e)] σ = some ((.next, [some (.ref (g.ov k)), some (.ref g.hm), some (.int b), some (.int e)]), σ1) := xbx (vs := [.ref (g.ov k), .ref g.hm, .int b, .int e]) (σ0 := σ) rfl h1
  have hcall : xad xbw (xa1 (xa9 xc9 (xa3 1)) (xa1 (xa3 0) xa8)) [some (.ref (g.ov k)), some (.ref g.hm), some (.int b), some (.int e)] σ1 = some (.bool (g.fl k), σ1) :=
    xb2 (vs := [.ref g.ru, .ref (g.ov k)]) (σ0 := σ1) (by
      have hh' : σ1.objs g.hm = .inst 3 [.ref g.tr, .ref g.od, .ref g.ru] := hh
      simp only [xa9, xa3, xap, xa1, xa8, xaN, xc9, List.lookup, List.getElem?_cons_zero, List.getElem?_cons_succ, beq_self_eq_true, hh']) hf
  have ht : (xcK (xaP (xa3 2) (xai cEq (xa3 3))) (xcK (xbe (xad xbw (xa1 (xa9 xc9 (xa3 1)) (xa1 (xa3 0) xa8)))) xbV)) [some (.ref (g.ov k)), some (.ref g.hm), some (.int b), some (.int e)] σ1 = some (decide (b = e) && g.fl k, σ1) := by
    have ht1 : xaP (xa3 2) (xai cEq (xa3 3)) [some (.ref (g.ov k)), some (.ref g.hm), some (.int b), some (.int e)] σ1 = some (decide (b = e), σ1) := by
      show some (b == e, σ1) = _
      rfl
    unfold xcK xbe
    rw [xaj ht1, xaj (xaj hcall)]
    cases decide (b = e) <;> cases g.fl k <;> rfl
  have hrun : ∀ σ2, (sIf (xcK (xaP (xa3 2) (xai cEq (xa3 3))) (xcK (xbe (xad xbw (xa1 (xa9 xc9 (xa3 1)) (xa1 (xa3 0) xa8)))) xbV)) (xa5 (xb1 (xad xbA (xa1 (xa3 0) xa8))) xaC) xaC) [some (.ref (g.ov k)), some (.ref g.hm), some (.int b), some (.int e)] σ1 = some ((.next, [some (.ref (g.ov k)), some (.ref g.hm), some (.int b), some (.int e)]), σ2) → xc6 [.ref (g.ov k), .ref g.hm, .int b, .int e] σ = some (.none, σ2) := by
    intro σ2 h
    unfold xc6 xaT
    show bnd (xdu [some (.ref (g.ov k)), some (.ref g.hm), some (.int b), some (.int e)] σ) _ = _
    unfold xdu
    rw [xam hc1 (xam h rfl)]
    rfl
  cases hb : (decide (b = e) && g.fl k) with
  | false =>
    rw [xhW]
    exact ⟨σ1, t1, hrun σ1 (by unfold sIf; rw [ht, hb]; rfl), h2, h3⟩
  | true =>
    rw [xjs]
    obtain ⟨σ2, t2, k1, k2, k3, _⟩ := xhw h2 (k := k) hk (if_pos rfl)
    have k1' : xbA [.ref (g.ov k)] σ1 = some (.none, σ2) := k1
    exact ⟨σ2, t2, hrun σ2 (by unfold sIf; rw [ht, hb]; exact xam (xbx (vs := [.ref (g.ov k)]) (σ0 := σ1) rfl k1') rfl), k2, h3.trans ⟨k3.next, fun a h4 h5 => k3.old a h4 h5⟩⟩
def G.born (g : G) (n : Nat) : G where
  hm := g.hm
  ru := g.ru
  tr := g.tr
  od := g.od
  ov := fun j => if j = g.N then n else g.ov j
  nd := fun j => if j = g.N then n + 1 else g.nd j
  pl := fun j => if j = g.N then n + 2 else g.pl j
  tag := fun a => if a = n then (5, g.N) else if a = n + 1 then (6, g.N) else if a = n + 2 then (7, g.N) else g.tag a
  N := g.N + 1
  lv := fun j => if j = g.N then false else g.lv j
  fl := fun j => if j = g.N then false else g.fl j
  B := g.B
  E := g.E
theorem xqT {σ : St} {n : Int} {fa ra : PV} : xd6 [.int n, .int 0, .int 0, fa, ra] σ = some (.ref σ.next, σ.push (.inst 0 [.int n, .int 0, .int 0, fa, ra, .int 0, .int 0, .bool false, .none, .none, .none])) := by
  have hp : ∀ (o : xg2) (o' : xg2), (σ.push o).set σ.next o' = σ.push o' := fun o o' => by
    unfold St.push St.set
    congr 1
    funext j
    dsimp only
    split <;> rfl
  have ho : ∀ o : xg2, (σ.push o).objs σ.next = o := fun o => if_pos rfl
  unfold xd6 xhr xcM xcO
  simp only [xaT, xa5, xa7, xa3, xap, xbO, xal, xaI, xaA, xay, xat, xaf, xau, xan, xb6, xdb, xdq, List.lookup, xaW, xch, xaC, xaK, List.map, List.length, List.replicate, List.cons_append, List.nil_append, List.getElem?_cons_zero, List.getElem?_cons_succ, beq_self_eq_true, true_and, ↓reduceIte, Nat.reduceAdd, Nat.reduceLT, ho, hp]
theorem xr8 {σ : St} {n : Int} {fa ra : PV} : ∃ σ', xgo [.int n, fa, ra] σ = some (.ref σ.next, σ') ∧ σ'.next = σ.next + 3 ∧ (∀ a, a < σ.next → σ'.objs a = σ.objs a) ∧ σ'.objs σ.next = .inst 2 [.int n, .ref (σ.next + 1), .none, .ref (σ.next + 2)] ∧
    σ'.objs (σ.next + 1) = .inst 0 [.int n, .int 0, .int 0, fa, ra, .int 0, .int 0, .bool false, .none, .none, .none] ∧ σ'.objs (σ.next + 2) = .list [] := by
  have hp : ∀ (o : xg2) (o' : xg2), (σ.push o).set σ.next o' = σ.push o' := fun o o' => by
    unfold St.push St.set
    congr 1
    funext j
    dsimp only
    split <;> rfl
  have ho : ∀ o : xg2, (σ.push o).objs σ.next = o := fun o => if_pos rfl
  generalize hσ1 : σ.push (.inst 2 [.int n]) = σ1
  have n1 : σ1.next = σ.next + 1 := by rw [← hσ1]; rfl
  have hc : xad xd6 (xa1 (xa3 1) (xa1 (xaK 0) (xa1 (xaK 0) (xa1 (xa3 2) (xa1 (xa3 3) xa8))))) [some (.ref σ.next), some (.int n), some fa, some ra] σ1 = some (.ref (σ.next + 1), σ1.push (.inst 0 [.int n, .int 0, .int 0, fa, ra, .int 0, .int 0, .bool false, .none, .none, .none])) := by
    rw [xb2 (vs := [.int n, .int 0, .int 0, fa, ra]) (σ0 := σ1) rfl xqT, n1]
  generalize hσ2 : σ1.push (.inst 0 [.int n, .int 0, .int 0, fa, ra, .int 0, .int 0, .bool false, .none, .none, .none]) = σ2 at hc
  have n2 : σ2.next = σ.next + 2 := by rw [← hσ2]; show σ1.next + 1 = _; rw [n1]
  have o2 : σ2.objs σ.next = .inst 2 [.int n] := by
    rw [← hσ2]
    show (if σ.next = σ1.next then _ else σ1.objs σ.next) = _
    rw [if_neg (by rw [n1]; omega), ← hσ1]; exact ho _
  generalize hσ3 : (σ2.set σ.next (.inst 2 [.int n, .ref (σ.next + 1)])).set σ.next (.inst 2 [.int n, .ref (σ.next + 1), .none]) = σ3
  have n3 : σ3.next = σ.next + 2 := by rw [← hσ3]; exact n2
  have o3 : σ3.objs σ.next = .inst 2 [.int n, .ref (σ.next + 1), .none] := by rw [← hσ3]; exact if_pos rfl
  generalize hσ4 : σ3.push (.list []) = σ4
  have o4 : σ4.objs σ.next = .inst 2 [.int n, .ref (σ.next + 1), .none] := by
    rw [← hσ4]
    show (if σ.next = σ3.next then _ else σ3.objs σ.next) = _
    rw [if_neg (by rw [n3]; omega)]; exact o3
  have n4 : σ4.next = σ.next + 3 := by rw [← hσ4]; show σ3.next + 1 = _; rw [n3]
  have keep : ∀ a, a ≠ σ.next → a ≠ σ.next + 1 → a ≠ σ.next + 2 → σ4.objs a = σ.objs a := fun a h1 h2 h3 => by
    rw [← hσ4]
    show (if a = σ3.next then _ else σ3.objs a) = _
    rw [if_neg (by rw [n3]; exact h3), ← hσ3, xao, if_neg h1, xao, if_neg h1, ← hσ2]
    show (if a = σ1.next then _ else σ1.objs a) = _
    rw [if_neg (by rw [n1]; exact h2), ← hσ1]
    exact if_neg h1
  refine ⟨σ4.set σ.next (.inst 2 [.int n, .ref (σ.next + 1), .none, .ref (σ.next + 2)]), ?_, n4, fun a ha => ?_, if_pos rfl, ?_, ?_⟩
  · have hI : xcQ [.ref σ.next, .int n, fa, ra] (σ.push (.inst 2 [])) = some (.none, σ4.set σ.next (.inst 2 [.int n, .ref (σ.next + 1), .none, .ref (σ.next + 2)])) := by
      unfold xcQ xaT
      show bnd (xcP [some (.ref σ.next), some (.int n), some fa, some ra] (σ.push (.inst 2 []))) _ = _
      unfold xcP
      have s1 : xa7 xb6 (xa3 0) (xa3 1) [some (.ref σ.next), some (.int n), some fa, some ra] (σ.push (.inst 2 [])) = some ((.next, [some (.ref σ.next), some (.int n), some fa, some ra]), σ1) := by
        rw [← hσ1]
        simp only [xa7, xa3, xap, xbO, xb6, List.lookup, List.length, List.nil_append, List.getElem?_cons_zero, List.getElem?_cons_succ, beq_self_eq_true, true_and, ↓reduceIte, Nat.reduceLT, Nat.reduceBEq, ho, hp]
      have s2 : xa7 xb9 (xa3 0) (xad xd6 (xa1 (xa3 1) (xa1 (xaK 0) (xa1 (xaK 0) (xa1 (xa3 2) (xa1 (xa3 3) xa8)))))) [some (.ref σ.next), some (.int n), some fa, some ra] σ1 = some ((.next, [some (.ref σ.next), some (.int n), some fa, some ra]), σ2.set σ.next (.inst 2 [.int n, .ref (σ.next + 1)])) := by
        unfold xa7
        rw [xaj hc]
        simp only [xa3, xap, xbO, xb9, List.lookup, List.length, List.cons_append, List.nil_append, List.getElem?_cons_zero, beq_self_eq_true, true_and, ↓reduceIte, Nat.reduceAdd, Nat.reduceLT, o2]
      have s3 : xa7 xbn (xa3 0) xaW [some (.ref σ.next), some (.int n), some fa, some ra] (σ2.set σ.next (.inst 2 [.int n, .ref (σ.next + 1)])) = some ((.next, [some (.ref σ.next), some (.int n), some fa, some ra]), σ3) := by
        rw [← hσ3]
        simp only [xa7, xa3, xap, xbO, xao, xgZ, xbn, List.lookup, xaW, List.length, List.cons_append, List.nil_append, List.getElem?_cons_zero, beq_self_eq_true, true_and, ↓reduceIte, Nat.reduceAdd, Nat.reduceLT]
      have s4 : xa7 xbK (xa3 0) (xc8 xa8) [some (.ref σ.next), some (.int n), some fa, some ra] σ3 = some ((.next, [some (.ref σ.next), some (.int n), some fa, some ra]), σ4.set σ.next (.inst 2 [.int n, .ref (σ.next + 1), .none, .ref (σ.next + 2)])) := by
        simp only [xa7, xa3, xap, xc8, xnM, xa8, xbO, xbK, List.lookup, List.length, List.cons_append, List.nil_append, List.getElem?_cons_zero, beq_self_eq_true, true_and, ↓reduceIte, Nat.reduceAdd, Nat.reduceLT, Nat.zero_le, hσ4, o4, n3]
      rw [xam s1 (xam s2 (xam s3 (xam s4 rfl)))]
      rfl
    unfold xgo xhr
    rw [xaj hI]
  · rw [xao, if_neg (by omega)]; exact keep a (by omega) (by omega) (by omega)
  · rw [xao, if_neg (by omega), ← hσ4]
    show (if σ.next + 1 = σ3.next then _ else σ3.objs (σ.next + 1)) = _
    rw [if_neg (by rw [n3]; omega), ← hσ3, xao, if_neg (by omega), xao, if_neg (by omega), ← hσ2]
    show (if σ.next + 1 = σ1.next then _ else _) = _
    rw [if_pos (by rw [n1])]
  · rw [xao, if_neg (by omega), ← hσ4]
    show (if σ.next + 2 = σ3.next then _ else σ3.objs (σ.next + 2)) = _
    rw [if_pos (by rw [n3])]
end
end
section
open PySem
section
variable {σ σ' : St} {g : G} {t t' : T}
theorem xqc (P : PS σ g t) (h1 : σ'.next = σ.next + 3) (h2 : ∀ a, a < σ.next → σ'.objs a = σ.objs a) (h3 : σ'.objs σ.next = .inst 2 [.int g.N, .ref (σ.next + 1), .none, .ref (σ.next + 2)]) {fa ra : PV}
    (h4 : σ'.objs (σ.next + 1) = .inst 0 [.int g.N, .int 0, .int 0, fa, ra, .int 0, .int 0, .bool false, .none, .none, .none]) (h5 : σ'.objs (σ.next + 2) = .list []) : PS σ' (g.born σ.next) t := by
  obtain ⟨lp, df, hr⟩ := P.rules
  obtain ⟨D, hD, hDn, hDl, hD1, hD2⟩ := P.dict
  have ntag : ∀ a, a < σ.next → (g.born σ.next).tag a = g.tag a := fun a ha => by
    show (if a = σ.next then _ else if a = σ.next + 1 then _ else if a = σ.next + 2 then _ else g.tag a) = _
    rw [if_neg (by omega), if_neg (by omega), if_neg (by omega)]
  have hov : ∀ j, j ≠ g.N → (g.born σ.next).ov j = g.ov j := fun j h => if_neg h
  have hnd : ∀ j, j ≠ g.N → (g.born σ.next).nd j = g.nd j := fun j h => if_neg h
  have hpl : ∀ j, j ≠ g.N → (g.born σ.next).pl j = g.pl j := fun j h => if_neg h
  have hlv : ∀ j, j ≠ g.N → (g.born σ.next).lv j = g.lv j := fun j h => if_neg h
  have hfl : ∀ j, j ≠ g.N → (g.born σ.next).fl j = g.fl j := fun j h => if_neg h
  have hov' : (g.born σ.next).ov g.N = σ.next := if_pos rfl
  have hnd' : (g.born σ.next).nd g.N = σ.next + 1 := if_pos rfl
  have hpl' : (g.born σ.next).pl g.N = σ.next + 2 := if_pos rfl
  have hlv' : (g.born σ.next).lv g.N = false := if_pos rfl
  have hfl' : (g.born σ.next).fl g.N = false := if_pos rfl
  have split : ∀ j, j < (g.born σ.next).N → j = g.N ∨ (j ≠ g.N ∧ j < g.N) := fun j hj => by
    have : j < g.N + 1 := hj
    omega
  have trlt : g.tr < σ.next := P.tree.lt _ (List.mem_cons_self ..)
  refine ⟨(h2 _ P.lhm).trans P.home, ⟨lp, df, (h2 _ P.lru).trans hr⟩, ⟨?_, Sub.of (fun a ha => h2 a (P.tree.lt a (List.mem_cons_of_mem _ ha))) P.tree.sub, P.tree.nodup, fun a ha => by rw [h1]; have := P.tree.lt a ha; omega⟩, P.ub, P.shape, P.sorted, fun it => ?_, fun j hj hl => ?_, ⟨D, (h2 _ P.lod).trans hD, hDn, hDl, fun j hj hl => ?_, fun kv hkv => ?_⟩, fun j hj => ?_, fun j hj => ?_, fun j hj hl => ?_, ?_, ?_, ?_, ?_, fun j hj => ?_, fun j hj => ?_, fun j hj => ?_, ?_, ?_, ?_, fun j hj => ?_, fun j hj => ?_, fun j hj => ?_⟩
  · obtain ⟨cnt, hc⟩ := P.tree.root
    exact ⟨cnt, (h2 _ trlt).trans hc⟩
  · rw [P.items]
    constructor
    · rintro ⟨j, k1, k2, rfl⟩
      have hj : j ≠ g.N := by omega
      exact ⟨j, by show j < g.N + 1; omega, (hlv j hj).trans k2, by unfold G.it; rw [hnd j hj]; rfl⟩
    · rintro ⟨j, k1, k2, rfl⟩
      rcases split j k1 with rfl | ⟨hj, hj2⟩
      · rw [hlv'] at k2; cases k2
      · exact ⟨j, hj2, (hlv j hj).symm.trans k2, by unfold G.it; rw [hnd j hj]; rfl⟩
  · rcases split j hj with rfl | ⟨hj, hj2⟩
    · rw [hlv'] at hl; cases hl
    · exact P.be j hj2 ((hlv j hj).symm.trans hl)
  · rcases split j hj with rfl | ⟨hj, hj2⟩
    · rw [hlv'] at hl; cases hl
    · rw [hov j hj]; exact hD1 j hj2 ((hlv j hj).symm.trans hl)
  · obtain ⟨j, k1, k2, k3⟩ := hD2 kv hkv
    exact ⟨j, by show j < g.N + 1; omega, (hlv j (by omega)).trans k2, k3⟩
  · rcases split j hj with rfl | ⟨hj, hj2⟩
    · unfold G.homeOf
      rw [hov', hnd', hpl', hlv']; exact h3
    · unfold G.homeOf
      rw [hov j hj, hnd j hj, hpl j hj, hlv j hj, h2 _ (P.lov j hj2)]; exact P.over j hj2
  · rcases split j hj with rfl | ⟨hj, hj2⟩
    · rw [hpl', hfl']; exact h5
    · rw [hpl j hj, hfl j hj, h2 _ (P.lpl j hj2)]; exact P.plist j hj2
  · rcases split j hj with rfl | ⟨hj, hj2⟩
    · rw [hnd', h4]; exact ⟨0, 0, fa, ra, 0, 0, false, rfl⟩
    · rw [hnd j hj, h2 _ (P.lnd j hj2)]; exact P.node j hj2 ((hlv j hj).symm.trans hl)
  · exact (ntag _ P.lhm).trans P.thm
  · exact (ntag _ P.lru).trans P.tru
  · exact (ntag _ trlt).trans P.ttr
  · exact (ntag _ P.lod).trans P.tod
  · rcases split j hj with rfl | ⟨hj, hj2⟩
    · rw [hov']; exact if_pos rfl
    · rw [hov j hj, ntag _ (P.lov j hj2)]; exact P.tov j hj2
  · rcases split j hj with rfl | ⟨hj, hj2⟩
    · rw [hnd']; exact (if_neg (by omega)).trans (if_pos rfl)
    · rw [hnd j hj, ntag _ (P.lnd j hj2)]; exact P.tnd j hj2
  · rcases split j hj with rfl | ⟨hj, hj2⟩
    · rw [hpl']; exact (if_neg (by omega)).trans ((if_neg (by omega)).trans (if_pos rfl))
    · rw [hpl j hj, ntag _ (P.lpl j hj2)]; exact P.tpl j hj2
  · show g.hm < _; rw [h1]; have := P.lhm; omega
  · show g.ru < _; rw [h1]; have := P.lru; omega
  · show g.od < _; rw [h1]; have := P.lod; omega
  · rcases split j hj with rfl | ⟨hj, hj2⟩
    · rw [hov', h1]; omega
    · rw [hov j hj, h1]; have := P.lov j hj2; omega
  · rcases split j hj with rfl | ⟨hj, hj2⟩
    · rw [hnd', h1]; omega
    · rw [hnd j hj, h1]; have := P.lnd j hj2; omega
  · rcases split j hj with rfl | ⟨hj, hj2⟩
    · rw [hpl', h1]; omega
    · rw [hpl j hj, h1]; have := P.lpl j hj2; omega
def G.ext (g g' : G) (n : Nat) : Prop := ∀ a, a < n → g'.tag a = g.tag a
theorem xq9 (P : PS σ g t) (hN : g.N + 1 ≤ 6) {b e : Int} {fa ra : PV} (hbe : b ≤ e) :
    ∃ σ' t', xcp [.ref g.hm, .int g.N, .int b, .int e, fa, ra] σ = some (.ref σ.next, σ') ∧ PS σ' ((g.born σ.next).lay g.N b e) t' ∧ Unt g σ σ' := by
  obtain ⟨σ1, c1, c2, c3, c4, c5, c6⟩ := xr8 (σ := σ) (n := g.N) (fa := fa) (ra := ra)
  have P1 := xqc P c2 c3 c4 c5 c6
  obtain ⟨σ2, t2, l1, l2, l3⟩ := xoL P1 hN (k := g.N) (by show g.N < g.N + 1; omega) hbe
  have hov' : (g.born σ.next).ov g.N = σ.next := if_pos rfl
  rw [hov'] at l1
  refine ⟨σ2, t2, ?_, l2, ⟨by have := l3.next; rw [c2] at this; omega, fun a h1 h2 => ?_⟩⟩
  · unfold xcp xaT
    show bnd (xdT [some (.ref g.hm), some (.int g.N), some (.int b), some (.int e), some fa, some ra, none] σ) _ = _
    unfold xdT
    have s1 : xak 6 (xad xgo (xa1 (xa3 1) (xa1 (xa3 4) (xa1 (xa3 5) xa8)))) [some (.ref g.hm), some (.int g.N), some (.int b), some (.int e), some fa, some ra, none] σ = some ((.next, [some (.ref g.hm), some (.int g.N), some (.int b), some (.int e), some fa, some ra, some (.ref σ.next)]), σ1) := by
      unfold xak
      rw [xaj (xb2 (vs := [.int g.N, fa, ra]) (σ0 := σ) rfl c1)]
      rfl
    rw [xav s1 (xam (xbx (vs := [.ref σ.next, .ref g.hm, .int b, .int e]) (σ0 := σ1) rfl l1) (xb8 (v := .ref σ.next) (fr1 := [some (.ref g.hm), some (.int g.N), some (.int b), some (.int e), some fa, some ra, some (.ref σ.next)]) (σ1 := σ2) rfl))]
    rfl
  · have ntag : (g.born σ.next).tag a = g.tag a := by
      show (if a = σ.next then _ else if a = σ.next + 1 then _ else if a = σ.next + 2 then _ else g.tag a) = _
      rw [if_neg (by omega), if_neg (by omega), if_neg (by omega)]
    rw [l3.old a (by rw [c2]; omega) (by rw [ntag]; exact h2), c3 a h1]
def G.mark (g : G) (k n : Nat) : G where
  hm := g.hm
  ru := g.ru
  tr := g.tr
  od := g.od
  ov := g.ov
  nd := g.nd
  pl := fun j => if j = k then n else g.pl j
  tag := fun a => if a = n then (7, k) else g.tag a
  N := g.N
  lv := g.lv
  fl := fun j => if j = k then true else g.fl j
  B := g.B
  E := g.E
theorem xqr (P : PS σ g t) {k n : Nat} (hk : k < g.N) (hn : σ.next ≤ n) (hn' : n < σ'.next) (h2 : ∀ a, a < σ.next → a ≠ g.ov k → σ'.objs a = σ.objs a) (h3 : σ'.objs (g.ov k) = .inst 2 [.int k, .ref (g.nd k), g.homeOf k, .ref n]) (h4 : σ'.objs n = .list (xsL true)) : PS σ' (g.mark k n) t := by
  obtain ⟨lp, df, hr⟩ := P.rules
  obtain ⟨D, hD, hDn, hDl, hD1, hD2⟩ := P.dict
  have hle : σ.next ≤ σ'.next := by omega
  have ntag : ∀ a, a < σ.next → (g.mark k n).tag a = g.tag a := fun a ha => if_neg (by omega)
  have trlt : g.tr < σ.next := P.tree.lt _ (List.mem_cons_self ..)
  have hh : g.hm ≠ g.ov k := fun z => by have := P.thm; rw [z, P.tov k hk] at this; cases this
  have hu : g.ru ≠ g.ov k := fun z => by have := P.tru; rw [z, P.tov k hk] at this; cases this
  have hd : g.od ≠ g.ov k := fun z => by have := P.tod; rw [z, P.tov k hk] at this; cases this
  have ht : g.tr ≠ g.ov k := fun z => by have := P.ttr; rw [z, P.tov k hk] at this; cases this
  have hnd : ∀ j, j < g.N → g.nd j ≠ g.ov k := fun j hj z => by have := P.tnd j hj; rw [z, P.tov k hk] at this; cases this
  have hpl : ∀ j, j < g.N → g.pl j ≠ g.ov k := fun j hj z => by have := P.tpl j hj; rw [z, P.tov k hk] at this; cases this
  refine ⟨(h2 _ P.lhm hh).trans P.home, ⟨lp, df, (h2 _ P.lru hu).trans hr⟩, ⟨?_, Sub.of (fun a ha => ?_) P.tree.sub, P.tree.nodup, fun a ha => Nat.lt_of_lt_of_le (P.tree.lt a ha) hle⟩, P.ub, P.shape, P.sorted, P.items, P.be, ⟨D, (h2 _ P.lod hd).trans hD, hDn, hDl, hD1, hD2⟩, fun j hj => ?_, fun j hj => ?_, fun j hj hl => ?_, (ntag _ P.lhm).trans P.thm, (ntag _ P.lru).trans P.tru, (ntag _ trlt).trans P.ttr, (ntag _ P.lod).trans P.tod, fun j hj => (ntag _ (P.lov j hj)).trans (P.tov j hj), fun j hj => (ntag _ (P.lnd j hj)).trans (P.tnd j hj), fun j hj => ?_, Nat.lt_of_lt_of_le P.lhm hle, Nat.lt_of_lt_of_le P.lru hle, Nat.lt_of_lt_of_le P.lod hle, fun k hk => Nat.lt_of_lt_of_le (P.lov k hk) hle, fun k hk => Nat.lt_of_lt_of_le (P.lnd k hk) hle, fun j hj => ?_⟩
  · obtain ⟨cnt, hc⟩ := P.tree.root
    exact ⟨cnt, (h2 _ trlt ht).trans hc⟩
  · obtain ⟨j, k1, _, rfl⟩ := P.tids ha
    exact h2 _ (P.lnd j k1) (hnd j k1)
  · show σ'.objs (g.ov j) = .inst 2 [.int j, .ref (g.nd j), g.homeOf j, .ref (if j = k then n else g.pl j)]
    by_cases q : j = k
    · subst q; rw [if_pos rfl]; exact h3
    · rw [if_neg q, h2 _ (P.lov j hj) (fun z => by have := P.tov j hj; rw [z, P.tov k hk] at this; exact q (congrArg Prod.snd this).symm)]; exact P.over j hj
  · show σ'.objs (if j = k then n else g.pl j) = .list (xsL (if j = k then true else g.fl j))
    by_cases q : j = k
    · rw [if_pos q, if_pos q]; exact h4
    · rw [if_neg q, if_neg q, h2 _ (P.lpl j hj) (hpl j hj)]; exact P.plist j hj
  · show xlZ j (σ'.objs (g.nd j))
    rw [h2 _ (P.lnd j hj) (hnd j hj)]; exact P.node j hj hl
  · show (if (if j = k then n else g.pl j) = n then (7, k) else g.tag (if j = k then n else g.pl j)) = (7, j)
    by_cases q : j = k
    · rw [if_pos q, if_pos rfl, q]
    · have := P.lpl j hj
      rw [if_neg q, if_neg (by omega)]; exact P.tpl j hj
  · show (if j = k then n else g.pl j) < _
    by_cases q : j = k
    · rw [if_pos q]; exact hn'
    · rw [if_neg q]; exact Nat.lt_of_lt_of_le (P.lpl j hj) hle
theorem xqi (P : PS σ g t) {k : Nat} (hk : k < g.N) (hl : g.lv k = true) (hf : g.fl k = false) :
    ∃ p σ' t' n, xci [.ref g.ru, .ref (g.ov k), .int 103, .bool true] σ = some (p, σ') ∧ PS σ' ((g.mark k n).gone k (decide (g.B k = g.E k))) t' ∧ Unt g σ σ' ∧ σ.next ≤ n := by
  have ho := P.over k hk
  have hp0 := P.plist k hk
  rw [hf] at hp0
  have hp : σ.objs (g.pl k) = .list [] := hp0
  obtain ⟨lp, df, hr⟩ := P.rules
  have hhome : g.homeOf k = .ref g.hm := if_pos hl
  have hhp : xdn [.ref (g.pl k), .int 103, .bool true] σ = some (.bool false, σ) := by
    unfold xdn xaT
    show bnd (xeW [some (.ref (g.pl k)), some (.int 103), some (.bool true), none] σ) _ = _
    unfold xeW
    have s1 : xak 3 (xad xbI (xa1 (xa3 0) (xa1 (xa3 1) xa8))) [some (.ref (g.pl k)), some (.int 103), some (.bool true), none] σ = some ((.next, [some (.ref (g.pl k)), some (.int 103), some (.bool true), some (.int (-1))]), σ) := by
      unfold xak
      rw [xaj (xb2 (vs := [.ref (g.pl k), .int 103]) (σ0 := σ) rfl (xkW hp))]
      rfl
    rw [xav s1 (xb8 (v := .bool false) (fr1 := [some (.ref (g.pl k)), some (.int 103), some (.bool true), some (.int (-1))]) (σ1 := σ) rfl)]
    rfl
  generalize hσ1 : (σ.push (.list [.tup [.int 103, .bool true]])).push (.list [.tup [.int 103, .bool true]]) = σ1
  have n1 : σ1.next = σ.next + 2 := by rw [← hσ1]; rfl
  have o1 : ∀ a, a < σ.next → σ1.objs a = σ.objs a := fun a ha => by
    rw [← hσ1]
    show (if a = σ.next + 1 then _ else if a = σ.next then _ else _) = _
    rw [if_neg (by omega), if_neg (by omega)]
  have l1 : σ1.objs (σ.next + 1) = .list [.tup [.int 103, .bool true]] := by rw [← hσ1]; exact if_pos rfl
  have hpw : xdk [.ref (g.pl k), .int 103, .bool true] σ = some (.ref (σ.next + 1), σ1) := by
    unfold xdk xaT
    show bnd (xeV [some (.ref (g.pl k)), some (.int 103), some (.bool true), none] σ) _ = _
    unfold xeV
    have s1 : xak 3 (xad xbI (xa1 (xa3 0) (xa1 (xa3 1) xa8))) [some (.ref (g.pl k)), some (.int 103), some (.bool true), none] σ = some ((.next, [some (.ref (g.pl k)), some (.int 103), some (.bool true), some (.int (-1))]), σ) := by
      unfold xak
      rw [xaj (xb2 (vs := [.ref (g.pl k), .int 103]) (σ0 := σ) rfl (xkW hp))]
      rfl
    have hplk := P.lpl k hk
    have pp : (σ.push (.list [.tup [.int 103, .bool true]])).objs (g.pl k) = .list [] := by
      show (if g.pl k = σ.next then _ else σ.objs (g.pl k)) = _
      rw [if_neg (by omega)]; exact hp
    have pn : (σ.push (.list [.tup [.int 103, .bool true]])).objs σ.next = .list [.tup [.int 103, .bool true]] := if_pos rfl
    have s2 : sIf (xaP (xa3 3) (xai cLt (xaK 0))) (xa5 (xcA (xbG xpl (xa3 0) (xc8 (xa1 (xeJ (xa1 (xa3 1) (xa1 (xa3 2) xa8))) xa8)))) xaC) xaC [some (.ref (g.pl k)), some (.int 103), some (.bool true), some (.int (-1))] σ = some ((.ret (.ref (σ.next + 1)), [some (.ref (g.pl k)), some (.int 103), some (.bool true), some (.int (-1))]), σ1) := by
      show xa5 _ _ _ σ = _
      refine xb8 ?_
      unfold xcA xbG
      show bnd (xpl (.ref (g.pl k)) (.ref σ.next) (σ.push (.list [.tup [.int 103, .bool true]]))) _ = _
      unfold xpl
      simp only [pp, pn]
      rw [← hσ1]
      rfl
    rw [xav s1 (xb8 s2)]
    rfl
  have hov1 : σ1.objs (g.ov k) = .inst 2 [.int k, .ref (g.nd k), .ref g.hm, .ref (g.pl k)] := by rw [o1 _ (P.lov k hk), ho, hhome]
  generalize hσ2 : σ1.set (g.ov k) (.inst 2 [.int k, .ref (g.nd k), .ref g.hm, .ref (σ.next + 1)]) = σ2
  have n2 : σ2.next = σ.next + 2 := by rw [← hσ2]; exact n1
  have P2 : PS σ2 (g.mark k (σ.next + 1)) t := by
    have hlt := P.lov k hk
    refine xqr P hk (by omega) (by rw [n2]; omega) (fun a h1 h2 => ?_) ?_ ?_
    · rw [← hσ2, xao, if_neg h2, o1 a h1]
    · rw [← hσ2, hhome]; exact if_pos rfl
    · rw [← hσ2, xao, if_neg (by omega)]; exact l1
  have mtag : ∀ a, a < σ.next → (g.mark k (σ.next + 1)).tag a = g.tag a := fun a ha => if_neg (by omega)
  have U2 : Unt g σ σ2 := ⟨by rw [n2]; omega, fun a h1 h2 => by
    have : a ≠ g.ov k := fun z => by rw [z, P.tov k hk] at h2; simp at h2
    rw [← hσ2, xao, if_neg this, o1 a h1]⟩
  obtain ⟨σ3, t3, b1, b2, b3⟩ := xku P2 (k := k) hk hl
  obtain ⟨σ4, t4, c1, c2, c3⟩ := xov b2 (k := k) hk hl
  have U4 : Unt g σ σ4 := U2.trans ⟨Nat.le_trans b3.next c3.next, fun a h1 h2 => by
    by_cases h3 : a < σ.next
    · have ht : (g.mark k (σ.next + 1)).tag a = g.tag a := mtag a h3
      rw [c3.old a (Nat.lt_of_lt_of_le h1 b3.next) (by rw [ht]; exact h2), b3.old a h1 (by rw [ht]; exact h2)]
    · have ht : a = σ.next + 1 ∨ (g.mark k (σ.next + 1)).tag a = g.tag a := by
        by_cases q : a = σ.next + 1
        · exact .inl q
        · exact .inr (if_neg q)
      rcases ht with q | ht
      · -- a is the new plist
        have hpl3 : σ3.objs (σ.next + 1) = σ2.objs (σ.next + 1) := by
          have e3 := b2.plist k hk
          have e2 := P2.plist k hk
          have hid : (g.mark k (σ.next + 1)).pl k = σ.next + 1 := if_pos rfl
          rw [hid] at e3 e2
          rw [e3, e2]
        have hpl4 : σ4.objs (σ.next + 1) = σ2.objs (σ.next + 1) := by
          have e3 := c2.plist k hk
          have e2 := P2.plist k hk
          have hid : (g.mark k (σ.next + 1)).pl k = σ.next + 1 := if_pos rfl
          rw [hid] at e3 e2
          rw [e3, e2]
        rw [q]; exact hpl4
      · rw [c3.old a (Nat.lt_of_lt_of_le h1 b3.next) (by rw [ht]; exact h2), b3.old a h1 (by rw [ht]; exact h2)]⟩
  have hov2 : σ2.objs (g.ov k) = .inst 2 [.int k, .ref (g.nd k), .ref g.hm, .ref (σ.next + 1)] := by rw [← hσ2]; exact if_pos rfl
  have hru2 : σ2.objs g.ru = ruO lp df := by
    rw [← hσ2, xao, if_neg (fun z => by have := P.tru; rw [z, P.tov k hk] at this; cases this), o1 _ P.lru]; exact hr
  have b1' : xbt [.ref (g.ov k)] σ2 = some (.int (g.B k), σ3) := b1
  have c1' : xbR [.ref (g.ov k)] σ3 = some (.int (g.E k), σ4) := c1
  have s1 : xak 4 (xqM (xad xdn (xa1 (xa9 xbK (xa3 1)) (xa1 (xa3 2) (xa1 (xa3 3) xa8))))) [some (.ref g.ru), some (.ref (g.ov k)), some (.int 103), some (.bool true), none] σ = some ((.next, [some (.ref g.ru), some (.ref (g.ov k)), some (.int 103), some (.bool true), some (.bool true)]), σ) := by
    unfold xak xqM
    rw [xaj (xaj (xb2 (vs := [.ref (g.pl k), .int 103, .bool true]) (σ0 := σ) (by simp only [xa9, xa3, xap, xa1, xa8, xaN, xbK, List.lookup, List.getElem?_cons_zero, List.getElem?_cons_succ, beq_self_eq_true, ho]) hhp))]
    rfl
  have s2 : sIf (xbe (xa3 4)) (xa5 (xa7 xbK (xa3 1) (xad xdk (xa1 (xa9 xbK (xa3 1)) (xa1 (xa3 2) (xa1 (xa3 3) xa8))))) xaC) xaC [some (.ref g.ru), some (.ref (g.ov k)), some (.int 103), some (.bool true), some (.bool true)] σ = some ((.next, [some (.ref g.ru), some (.ref (g.ov k)), some (.int 103), some (.bool true), some (.bool true)]), σ2) := by
    show xa5 _ _ _ σ = _
    refine xam (σ1 := σ2) ?_ rfl
    unfold xa7
    rw [xaj (xb2 (vs := [.ref (g.pl k), .int 103, .bool true]) (σ0 := σ) (by simp only [xa9, xa3, xap, xa1, xa8, xaN, xbK, List.lookup, List.getElem?_cons_zero, List.getElem?_cons_succ, beq_self_eq_true, ho]) hpw)]
    rw [← hσ2]
    simp only [xa3, xap, xbO, xbK, List.lookup, List.length, List.getElem?_cons_zero, List.getElem?_cons_succ, beq_self_eq_true, List.set, ↓reduceIte, Nat.reduceAdd, Nat.reduceLT, hov1]
  have t1 : (xcK (xaP (xa3 2) (xai cEq (xa9 xbH (xa3 0)))) (xcK (xoM (xbe (xn9 4 xaY (xa3 0) (xa1 (xa3 3) xa8)))) (xcK (xaP (xa9 xbn (xa3 1)) (xai xbc xaW)) xbV))) [some (.ref g.ru), some (.ref (g.ov k)), some (.int 103), some (.bool true), some (.bool true)] σ2 = some (true, σ2) := by
    have ta : xaP (xa3 2) (xai cEq (xa9 xbH (xa3 0))) [some (.ref g.ru), some (.ref (g.ov k)), some (.int 103), some (.bool true), some (.bool true)] σ2 = some (true, σ2) := by
      simp only [xa9, xa3, xap, xaN, xbH, List.lookup, xaP, xai, List.getElem?_cons_zero, List.getElem?_cons_succ, beq_self_eq_true, hru2, ruO, cEq]
    have hn : xaY [.ref g.ru, .bool true] σ2 = some (.bool false, σ2) := by
      unfold xaY xaT
      show bnd (xbX [some (.ref g.ru), some (.bool true)] σ2) _ = _
      unfold xbX
      rw [xb8 (v := .bool false) (fr1 := [some (.ref g.ru), some (.bool true)]) (σ1 := σ2) (by
        unfold xcA
        rw [xaj (xb2 (vs := [.bool true, .none]) (σ0 := σ2) (by simp only [xa9, xa3, xap, xa1, xa8, xaN, xf4, List.lookup, List.getElem?_cons_zero, List.getElem?_cons_succ, beq_self_eq_true, hru2, ruO]) (show xsK [.bool true, .none] σ2 = some (.bool false, σ2) from rfl))])]
      rfl
    have tb : xoM (xbe (xn9 4 xaY (xa3 0) (xa1 (xa3 3) xa8))) [some (.ref g.ru), some (.ref (g.ov k)), some (.int 103), some (.bool true), some (.bool true)] σ2 = some (true, σ2) := by
      have hc : isC 4 (.ref g.ru) σ2 = true := by unfold isC; simp only [hru2, ruO]; rfl
      unfold xoM xbe xn9
      show bnd (bnd (if isC 4 (.ref g.ru) σ2 = true then bnd (some ([PV.bool true], σ2)) _ else none) _) _ = _
      rw [if_pos hc]
      show bnd (bnd (xaY [.ref g.ru, .bool true] σ2) _) _ = _
      rw [hn]
      rfl
    have tc : xaP (xa9 xbn (xa3 1)) (xai xbc xaW) [some (.ref g.ru), some (.ref (g.ov k)), some (.int 103), some (.bool true), some (.bool true)] σ2 = some (true, σ2) := by
      simp only [xa9, xa3, xap, xaN, xbn, List.lookup, xaP, xai, xbc, xcc, xaW, List.getElem?_cons_zero, List.getElem?_cons_succ, beq_self_eq_true, Option.map, Bool.not_false, hov2]
    unfold xcK
    rw [xaj ta]
    show bnd (xoM _ _ σ2) _ = _
    rw [xaj tb]
    show bnd (xaP _ _ _ σ2) _ = _
    rw [xaj tc]
    rfl
  have t2' : xaP (xad xbt (xa1 (xa3 1) xa8)) (xai cEq (xad xbR (xa1 (xa3 1) xa8))) [some (.ref g.ru), some (.ref (g.ov k)), some (.int 103), some (.bool true), some (.bool true)] σ2 = some (decide (g.B k = g.E k), σ4) := by
    unfold xaP
    rw [xaj (xb2 (vs := [.ref (g.ov k)]) (σ0 := σ2) rfl b1')]
    unfold xai
    rw [xaj (xb2 (vs := [.ref (g.ov k)]) (σ0 := σ3) rfl c1')]
    rfl
  have hrun : ∀ σ5, (sIf (xaP (xad xbt (xa1 (xa3 1) xa8)) (xai cEq (xad xbR (xa1 (xa3 1) xa8)))) (xa5 (xb1 (xad xbA (xa1 (xa3 1) xa8))) xaC) xaC) [some (.ref g.ru), some (.ref (g.ov k)), some (.int 103), some (.bool true), some (.bool true)] σ2 = some ((.next, [some (.ref g.ru), some (.ref (g.ov k)), some (.int 103), some (.bool true), some (.bool true)]), σ5) → xci [.ref g.ru, .ref (g.ov k), .int 103, .bool true] σ = some (.bool true, σ5) := by
    intro σ5 h
    unfold xci xaT
    show bnd (xea [some (.ref g.ru), some (.ref (g.ov k)), some (.int 103), some (.bool true), none] σ) _ = _
    unfold xea
    rw [xav s1 (xam s2 (xam (σ1 := σ5) (by
      show bnd (xcK _ _ _ _) _ = _
      rw [t1]
      exact xam h rfl) (xb8 (v := .bool true) (fr1 := [some (.ref g.ru), some (.ref (g.ov k)), some (.int 103), some (.bool true), some (.bool true)]) (σ1 := σ5) rfl)))]
    rfl
  cases hb : decide (g.B k = g.E k) with
  | false =>
    rw [hb] at t2'
    refine ⟨.bool true, σ4, t4, σ.next + 1, hrun σ4 (by unfold sIf; rw [t2']; rfl), ?_, U4, by omega⟩
    rw [xhW]; exact c2
  | true =>
    rw [hb] at t2'
    obtain ⟨σ5, t5, d1, d2, d3, _⟩ := xhw c2 (k := k) hk hl
    have d1' : xbA [.ref (g.ov k)] σ4 = some (.none, σ5) := d1
    refine ⟨.bool true, σ5, t5, σ.next + 1, hrun σ5 (by unfold sIf; rw [t2']; exact xam (xbx (vs := [.ref (g.ov k)]) (σ0 := σ4) rfl d1') rfl), ?_, ?_, by omega⟩
    · rw [xjs]; exact d2
    · refine ⟨Nat.le_trans U4.next d3.next, fun a h1 h2 => ?_⟩
      rw [d3.old a (Nat.lt_of_lt_of_le h1 U4.next) (by rw [mtag a h1]; exact h2), U4.old a h1 h2]
end
end
section
open PySem
theorem xjK {α : Type} {r : α → PV} {t : xa6 → M Bool} {e : xa6 → M PV} {fr : xa6} {σ : St} {b : α → Bool} {f : α → PV} : ∀ (I : List α) (acc : List PV), (∀ v ∈ I, t (some (r v) :: fr) σ = some (b v, σ)) → (∀ v ∈ I, b v = true → e (some (r v) :: fr) σ = some (f v, σ)) → acc.length + I.length ≤ 1000 →
    xev t e fr (I.map r) acc σ = some (acc ++ (I.filter b).map f, σ)
  | [], acc, _, _, _ => by simp [xev]
  | v :: vs, acc, h1, h2, hz => by
    rw [List.length_cons] at hz
    show bnd (t (some (r v) :: fr) σ) _ = _
    rw [xaj (h1 v (List.mem_cons_self ..))]
    cases hb : b v with
    | false =>
      rw [List.filter_cons, hb]
      exact xjK vs acc (fun w hw => h1 w (List.mem_cons_of_mem _ hw)) (fun w hw => h2 w (List.mem_cons_of_mem _ hw)) (by omega)
    | true =>
      show bnd (e (some (r v) :: fr) σ) _ = _
      rw [xaj (h2 v (List.mem_cons_self ..) hb), if_pos (by omega), xjK vs (acc ++ [f v]) (fun w hw => h1 w (List.mem_cons_of_mem _ hw)) (fun w hw => h2 w (List.mem_cons_of_mem _ hw)) (by rw [List.length_append, List.length_singleton]; omega), List.filter_cons, hb]
      simp
theorem xds {α : Type} {r : α → PV} {keep : List Bool} {a : xa6 → M PV} {t : xa6 → M Bool} {e : xa6 → M PV} {fr : xa6} {x : PV} {σ σ0 σ1 : St} {I : List α} {b : α → Bool} {f : α → PV} (ha : a fr σ0 = some (x, σ)) (hl : xbo x σ = some (I.map r, σ1)) (hz : I.length ≤ 1000)
    (h1 : ∀ v ∈ I, t (some (r v) :: xeO keep fr) σ1 = some (b v, σ1)) (h2 : ∀ v ∈ I, b v = true → e (some (r v) :: xeO keep fr) σ1 = some (f v, σ1)) :
    xdg keep a t e fr σ0 = some (.ref σ1.next, σ1.push (.list ((I.filter b).map f))) := by
  unfold xdg
  rw [xaj ha]
  rw [hl]
  show bnd (xev _ _ _ _ _ _) _ = _
  rw [xaj (xjK I [] h1 h2 (by simpa using hz))]
  unfold xnM
  rw [if_pos (by rw [List.nil_append, List.length_map]; exact Nat.le_trans (List.length_filter_le _ _) hz)]
  rfl
theorem xd0 {σ : St} {l : Nat} {vs : List PV} (h : σ.objs l = .list vs) : xbo (.ref l) σ = some (vs, σ.set l (.flist vs)) := by unfold xbo; simp only [h]
theorem xd4 {tbl : List (Nat × Nat)} {a : xa6 → M PV} {fr : xa6} {σ σ0 : St} {i c k : Nat} {fs : List PV} {v : PV} (ha : a fr σ0 = some (.ref i, σ)) (ho : σ.objs i = .inst c fs) (hk : tbl.lookup c = some k) (hv : fs[k]? = some v) : xa9 tbl a fr σ0 = some (v, σ) := by
  unfold xa9
  rw [xaj ha]
  simp only [xaN, ho, hk, hv]
theorem xld {σ : St} : ∀ {t : T} {p : PV} {c : Int}, Sub σ p t → ∀ it ∈ t.inord c, ∃ b e w3 w4 w5 w6 w7 w8 w9 w10, σ.objs it.id = .inst 0 [it.num, .int b, .int e, w3, w4, w5, w6, w7, w8, w9, w10] ∧ e - b = it.e - it.b
  | .E, _, _, _, it, h => by cases h
  | .N l x r, p, c, ⟨h1, h2, h3⟩, it, h => by
    have h' : it ∈ l.inord (c + x.off) ++ ⟨x.id, x.num, x.b + (c + x.off), x.e + (c + x.off)⟩ :: r.inord (c + x.off) := h
    rcases List.mem_append.mp h' with q | q
    · exact xld h2 it q
    · rcases List.mem_cons.mp q with q | q
      · rw [q]; exact ⟨x.b, x.e, _, _, _, _, _, _, _, _, h1, by show _ = x.e + (c + x.off) - (x.b + (c + x.off)); omega⟩
      · exact xld h3 it q
def xf5 (it : It) : Nat := match it.num with | .int k => k.toNat | _ => 0
section
variable {σ σ' σ0 : St} {g : G} {t t' t0 : T}
theorem xoI (g : G) (k : Nat) : xf5 (g.it k) = k := by show (k : Int).toNat = k; simp
theorem PS.itOf (P : PS σ g t) {it : It} (h : it ∈ t.inord 0) : xf5 it < g.N ∧ g.lv (xf5 it) = true ∧ it = g.it (xf5 it) := by
  obtain ⟨k, h1, h2, rfl⟩ := (P.items it).mp h
  rw [xoI]; exact ⟨h1, h2, rfl⟩
theorem PS.itMem (P : PS σ g t) {k : Nat} (hk : k < g.N) (hl : g.lv k = true) : g.it k ∈ t.inord 0 := (P.items _).mpr ⟨k, hk, hl, rfl⟩
theorem PS.nums (P : PS σ g t) : ((t.inord 0).map xf5).Nodup := by
  have h := (List.nodup_cons.mp P.tree.nodup).2
  rw [← T.inord_ids 0, List.nodup_iff_pairwise_ne, List.pairwise_map] at h
  rw [List.nodup_iff_pairwise_ne, List.pairwise_map]
  refine List.Pairwise.imp_of_mem (fun {a b} ha hb hab q => hab ?_) h
  rw [(P.itOf ha).2.2, (P.itOf hb).2.2, q]
theorem PS.move (P0 : PS σ0 g t0) (P : PS σ g t) (h : ∀ a, a < σ0.next → σ'.objs a = σ.objs a) (hn : σ.next ≤ σ'.next) : PS σ' g t := by
  obtain ⟨lp, df, hr⟩ := P.rules
  obtain ⟨D, hD⟩ := P.dict
  have tl : ∀ a ∈ t.ids, a < σ0.next := fun a ha => by
    obtain ⟨k, h1, _, rfl⟩ := P.tids ha
    exact P0.lnd k h1
  have trl := P0.tree.lt _ (List.mem_cons_self ..)
  refine ⟨(h _ P0.lhm).trans P.home, ⟨lp, df, (h _ P0.lru).trans hr⟩, ⟨?_, Sub.of (fun a ha => h a (tl a ha)) P.tree.sub, P.tree.nodup, fun a ha => Nat.lt_of_lt_of_le (P.tree.lt a ha) hn⟩, P.ub, P.shape, P.sorted, P.items, P.be, ⟨D, (h _ P0.lod).trans hD.1, hD.2⟩, fun k hk => (h _ (P0.lov k hk)).trans (P.over k hk), fun k hk => (h _ (P0.lpl k hk)).trans (P.plist k hk), fun k hk hl => by rw [h _ (P0.lnd k hk)]; exact P.node k hk hl, P.thm, P.tru, P.ttr, P.tod, P.tov, P.tnd, P.tpl, Nat.lt_of_lt_of_le P.lhm hn, Nat.lt_of_lt_of_le P.lru hn, Nat.lt_of_lt_of_le P.lod hn, fun k hk => Nat.lt_of_lt_of_le (P.lov k hk) hn, fun k hk => Nat.lt_of_lt_of_le (P.lnd k hk) hn, fun k hk => Nat.lt_of_lt_of_le (P.lpl k hk) hn⟩
  obtain ⟨cnt, hc⟩ := P.tree.root
  exact ⟨cnt, (h _ trl).trans hc⟩
theorem PS.nb (P : PS σ g t) (b e : Int) : ∃ fl σ' t', xb0 [.ref g.tr, .int b, .int e] σ = some (.ref fl, σ') ∧ PS σ' g t' ∧ Unt g σ σ' ∧ σ.next ≤ fl ∧ fl < σ'.next ∧ t'.inord 0 = t.inord 0 ∧ (∀ a, a < σ.next → a ∉ t.ids → σ'.objs a = σ.objs a) ∧
    σ'.objs fl = .list (((t.inord 0).filter (nbP b e)).map (fun it => .ref it.id)) ∧ ∀ it ∈ (t.inord 0).filter (nbP b e), ∃ w3 w4 w5 w6 w7 w8 w9 w10, σ'.objs it.id = .inst 0 [it.num, .int it.b, .int it.e, w3, w4, w5, w6, w7, w8, w9, w10] := by
  obtain ⟨fl, σ', t', h1, h2, h3, h4, h5, h6, h7, h8, h9, h10, h11⟩ := xs5 (b := b) (e := e) P.tree P.ub P.shape P.sorted
  have hF : Far σ (g.tr :: t.ids) σ' := ⟨h6.next, fun a k1 k2 => h6.old a k1 (fun q => k2 (List.mem_cons_of_mem _ q))⟩
  exact ⟨fl, σ', t', h1, P.turn hF h2 h5 h3 h4, P.unt hF, h7, h8, h4, h6.old, h10, h11⟩
theorem xo4 (P0 : PS σ0 g t0) (P : PS σ g t) {l : Nat} {I : List It} (hI : ∀ it ∈ I, it ∈ t.inord 0) (hz : I.length ≤ 100) (hl : σ.objs l = .list (I.map (fun it => .ref it.id))) (h0 : σ0.next ≤ l) (h1 : l < σ.next) :
    ∃ σ', xdI [.ref g.hm, .ref l] σ = some (.ref σ.next, σ') ∧ PS σ' g t ∧ σ'.next = σ.next + 1 ∧ (∀ a, a < σ.next → a ≠ l → σ'.objs a = σ.objs a) ∧ σ'.objs σ.next = .list (I.map (fun it => .ref (g.ov (xf5 it)))) := by
  obtain ⟨D, hD, hDn, hDl, hD1, hD2⟩ := P.dict
  have hz' : (I.map (fun it => PV.ref it.id)).length ≤ 1000 := by rw [List.length_map]; omega
  have oth : ∀ a, a < σ0.next → (σ.set l (.flist (I.map (fun it => .ref it.id)))).objs a = σ.objs a := fun a ha => if_neg (by omega)
  have hh : (σ.set l (.flist (I.map (fun it => .ref it.id)))).objs g.hm = .inst 3 [.ref g.tr, .ref g.od, .ref g.ru] := (oth _ P0.lhm).trans P.home
  have hdd : (σ.set l (.flist (I.map (fun it => .ref it.id)))).objs g.od = .dict D := (oth _ P0.lod).trans hD
  generalize hσ1 : σ.set l (.flist (I.map (fun it => .ref it.id))) = σ1 at oth hh hdd
  have hit1 : xbo (.ref l) σ = some (I.map (fun it => PV.ref it.id), σ1) := by rw [xd0 hl, hσ1]
  have hf : ∀ it ∈ I, xbE (xa9 xbf (xa3 1)) (xa9 xb6 (xa3 0)) (some (.ref it.id) :: xeO [true, false] [some (.ref g.hm), some (.ref l)]) σ1 = some (.ref (g.ov (xf5 it)), σ1) := by
    intro it hit
    obtain ⟨k1, k2, k3⟩ := P.itOf (hI it hit)
    obtain ⟨b, e, w3, w4, w5, w6, w7, w8, w9, w10, ho, _⟩ := xld P.tree.sub it (hI it hit)
    have hid : it.id = g.nd (xf5 it) := congrArg It.id k3
    have hnum : it.num = .int (xf5 it) := congrArg It.num k3
    have hn : σ1.objs it.id = .inst 0 [it.num, .int b, .int e, w3, w4, w5, w6, w7, w8, w9, w10] := by
      rw [oth _ (by rw [hid]; exact P0.lnd _ k1)]; exact ho
    have hg := hD1 _ k1 k2
    have e1 : xa9 xbf (xa3 1) (some (.ref it.id) :: xeO [true, false] [some (.ref g.hm), some (.ref l)]) σ1 = some (.ref g.od, σ1) := xd4 (k := 1) (i := g.hm) rfl hh rfl rfl
    have e2 : xa9 xb6 (xa3 0) (some (.ref it.id) :: xeO [true, false] [some (.ref g.hm), some (.ref l)]) σ1 = some (.int (xf5 it), σ1) := xd4 (k := 0) (i := it.id) rfl hn rfl (by rw [← hnum]; rfl)
    unfold xbE
    rw [xaj e1, xaj e2]
    simp only [xhf, hdd, hg]
  have hcomp := xds (keep := [true, false]) (a := xa3 1) (t := xbV) (e := xbE (xa9 xbf (xa3 1)) (xa9 xb6 (xa3 0))) (fr := [some (.ref g.hm), some (.ref l)]) (σ := σ) (σ0 := σ) (b := fun _ => true) (f := fun it => .ref (g.ov (xf5 it))) rfl hit1 (by omega) (fun v _ => rfl) (fun it hit _ => hf it hit)
  rw [List.filter_eq_self.mpr (fun _ _ => rfl)] at hcomp
  have n1 : σ1.next = σ.next := by rw [← hσ1]; rfl
  rw [n1] at hcomp
  have o1 : ∀ a, a ≠ l → σ1.objs a = σ.objs a := fun a ha => by rw [← hσ1, xao, if_neg ha]
  have o2 : ∀ a o, a ≠ σ.next → (σ1.push o).objs a = σ1.objs a := fun a o ha => if_neg (by rw [n1]; exact ha)
  refine ⟨σ1.push (.list (I.map (fun it => .ref (g.ov (xf5 it))))), ?_, P0.move P (fun a ha => ?_) (by show σ.next ≤ σ1.next + 1; omega), by show σ1.next + 1 = _; omega, fun a h2 h3 => ?_, if_pos n1.symm⟩
  · unfold xdI xaT
    show bnd (xgA [some (.ref g.hm), some (.ref l)] σ) _ = _
    unfold xgA
    rw [xb8 (v := .ref σ.next) (fr1 := [some (.ref g.hm), some (.ref l)]) (σ1 := σ1.push (.list (I.map (fun it => .ref (g.ov (xf5 it)))))) (by
      unfold xcA
      rw [xaj hcomp])]
    rfl
  · rw [o2 _ _ (by omega), o1 _ (by omega)]
  · rw [o2 _ _ (by omega), o1 _ h3]
end
end
section
open PySem
theorem xaR {a : xa6 → M PV} {b : xa6 → M (List PV)} {fr : xa6} {σ σ1 σ2 : St} {x : PV} {xs : List PV} (h : a fr σ = some (x, σ1)) (k : b fr σ1 = some (xs, σ2)) : xa1 a b fr σ = some (x :: xs, σ2) := by
  unfold xa1
  rw [xaj h, xaj k]
theorem xmr {a b : xa6 → M PV} {fr : xa6} {σ σ1 : St} {x y : Bool} (h : a fr σ = some (.bool x, σ1)) (k : b fr σ1 = some (.bool y, σ1)) : eOr a b fr σ = some (.bool (x || y), σ1) := by
  unfold eOr
  rw [xaj h]
  cases x
  · exact k
  · rfl
theorem xsm {a b : xa6 → M PV} {fr : xa6} {σ σ1 : St} {x y : Bool} (h : a fr σ = some (.bool x, σ1)) (k : b fr σ1 = some (.bool y, σ1)) : xoC a b fr σ = some (.bool (x && y), σ1) := by
  unfold xoC
  rw [xaj h]
  cases x
  · rfl
  · exact k
section
variable {σ σ' σ0 : St} {g : G} {t t' t0 : T}
theorem PS.len (P : PS σ g t) : (t.inord 0).length ≤ 6 := by
  rw [T.inord_length, ← T.shape_size]; exact xoc P.shape
theorem PS.pick (P : PS σ g t) (q : It → Bool) : (((t.inord 0).filter q).map xf5).Nodup ∧ ∀ k, k ∈ ((t.inord 0).filter q).map xf5 ↔ k < g.N ∧ g.lv k = true ∧ q (g.it k) = true := by
  refine ⟨P.nums.sublist (List.Sublist.map _ List.filter_sublist), fun k => ?_⟩
  rw [List.mem_map]
  constructor
  · rintro ⟨it, h, rfl⟩
    rw [List.mem_filter] at h
    obtain ⟨h1, h2, h3⟩ := P.itOf h.1
    exact ⟨h1, h2, by rw [← h3]; exact h.2⟩
  · rintro ⟨h1, h2, h3⟩
    exact ⟨g.it k, List.mem_filter.mpr ⟨P.itMem h1 h2, h3⟩, xoI g k⟩
def atP (p : Int) (it : It) : Bool := decide (it.b ≤ p) && decide (p < it.e)
theorem xsj (P : PS σ g t) (p : Int) : ∃ (r : Nat) (σ' : St) (t' : T) (L : List Nat), xcH [.ref g.hm, .int p] σ = some (.ref r, σ') ∧ PS σ' g t' ∧ Unt g σ σ' ∧ σ.next ≤ r ∧ r < σ'.next ∧ σ'.objs r = .list (L.map (fun k => .ref (g.ov k))) ∧ L.Nodup ∧ L.length ≤ 6 ∧ ∀ k, k ∈ L ↔ k < g.N ∧ g.lv k = true ∧ g.B k ≤ p ∧ p < g.E k := by
  obtain ⟨fl, σ1, t1, n1, n2, n3, n4, n5, n6, n7, n8, n9⟩ := P.nb p p
  have hh := P.home
  have hnb : xad xb0 (xa1 (xa9 xbv (xa3 0)) (xa1 (xa3 1) (xa1 (xa3 1) xa8))) [some (.ref g.hm), some (.int p)] σ = some (.ref fl, σ1) :=
    xb2 (vs := [.ref g.tr, .int p, .int p]) (σ0 := σ) (by simp only [xa9, xa3, xap, xa1, xa8, xaN, xbv, List.lookup, List.getElem?_cons_zero, List.getElem?_cons_succ, beq_self_eq_true, hh]) n1
  generalize hσ2 : σ1.set fl (.flist (((t.inord 0).filter (nbP p p)).map (fun it => .ref it.id))) = σ2
  have hit : xbo (.ref fl) σ1 = some (((t.inord 0).filter (nbP p p)).map (fun it => PV.ref it.id), σ2) := by rw [xd0 n8, hσ2]
  have o2 : ∀ a, a ≠ fl → σ2.objs a = σ1.objs a := fun a ha => by rw [← hσ2, xao, if_neg ha]
  have x2 : σ2.next = σ1.next := by rw [← hσ2]; rfl
  have hlen : ((t.inord 0).filter (nbP p p)).length ≤ 6 := Nat.le_trans (List.length_filter_le _ _) P.len
  have hin : ∀ it ∈ (t.inord 0).filter (nbP p p), it.id < σ.next := fun it h => by
    obtain ⟨k1, k2, k3⟩ := P.itOf (List.mem_filter.mp h).1
    rw [k3]; exact P.lnd _ k1
  have hcomp := xds (keep := [false, true]) (a := xad xb0 (xa1 (xa9 xbv (xa3 0)) (xa1 (xa3 1) (xa1 (xa3 1) xa8)))) (t := xaP (xa9 xal (xa3 0)) (xbQ cLe (xa3 2) (xai cLt (xa9 xaI (xa3 0))))) (e := xa3 0) (fr := [some (.ref g.hm), some (.int p)]) (σ0 := σ) (b := atP p) (f := fun it => .ref it.id) hnb hit (by omega) (fun it h => by
      obtain ⟨w3, w4, w5, w6, w7, w8, w9, w10, ho⟩ := n9 it h
      have hid := hin it h
      have ho2 : σ2.objs it.id = _ := (o2 _ (by omega)).trans ho
      simp only [xa9, xa3, xap, xaN, xal, xaI, List.lookup, xaP, xai, xg3, cLt, cLe, List.getElem?_cons_zero, List.getElem?_cons_succ, beq_self_eq_true, Bool.false_eq_true, ↓reduceIte, xbQ, xeO, ho2, atP]
      by_cases q : it.b ≤ p <;> simp [q]) (fun it h _ => rfl)
  rw [x2] at hcomp
  have hfil : (((t.inord 0).filter (nbP p p)).filter (atP p)) = (t1.inord 0).filter (fun it => atP p it && nbP p p it) := by rw [List.filter_filter, n6]
  rw [hfil] at hcomp
  generalize hσ3 : σ2.push (.list (((t1.inord 0).filter (fun it => atP p it && nbP p p it)).map (fun it => .ref it.id))) = σ3 at hcomp
  have x3 : σ3.next = σ1.next + 1 := by rw [← hσ3, ← x2]; rfl
  have o3 : ∀ a, a < σ.next → σ3.objs a = σ1.objs a := fun a ha => by
    have hlt := n3.next
    rw [← hσ3]
    show (if a = σ2.next then _ else σ2.objs a) = _
    rw [if_neg (by omega), o2 _ (by omega)]
  have l3 : σ3.objs σ1.next = .list (((t1.inord 0).filter (fun it => atP p it && nbP p p it)).map (fun it => .ref it.id)) := by rw [← hσ3]; exact if_pos x2.symm
  have P3 : PS σ3 g t1 := P.move n2 o3 (by omega)
  obtain ⟨σ4, e1, e2, e3, e4, e5⟩ := xo4 (σ0 := σ) P P3 (I := (t1.inord 0).filter (fun it => atP p it && nbP p p it)) (fun it h => (List.mem_filter.mp h).1) (by have := List.length_filter_le (fun it => atP p it && nbP p p it) (t1.inord 0); rw [n6] at this ⊢; have := P.len; omega) l3 (by have := n3.next; omega) (by omega)
  obtain ⟨k1, k2⟩ := P3.pick (fun it => atP p it && nbP p p it)
  refine ⟨σ3.next, σ4, t1, ((t1.inord 0).filter (fun it => atP p it && nbP p p it)).map xf5, ?_, e2, ⟨?_, fun a h1 h2 => ?_⟩, ?_, by omega, ?_, k1, ?_, fun k => ?_⟩
  · unfold xcH xaT
    show bnd (xee [some (.ref g.hm), some (.int p)] σ) _ = _
    unfold xee
    rw [xb8 (v := .ref σ3.next) (fr1 := [some (.ref g.hm), some (.int p)]) (σ1 := σ4) (by
      unfold xcA
      rw [xaj (xb2 (vs := [.ref g.hm, .ref σ1.next]) (σ0 := σ3) (by
        exact xaR rfl (xaR hcomp rfl)) e1)])]
    rfl
  · have := n3.next; omega
  · have hlt := n3.next
    rw [e4 a (by omega) (by omega), o3 a h1]; exact n3.old a h1 h2
  · have := n3.next; omega
  · rw [e5, List.map_map]; rfl
  · rw [List.length_map]
    have := List.length_filter_le (fun it => atP p it && nbP p p it) (t1.inord 0); rw [n6] at this ⊢; have := P.len; omega
  · rw [k2]
    show _ ∧ _ ∧ (((decide (g.B k ≤ p) && decide (p < g.E k)) && (decide (g.B k ≤ p) && decide (p ≤ g.E k))) = true) ↔ _
    simp only [Bool.and_eq_true, decide_eq_true_eq]
    constructor
    · rintro ⟨a, b, ⟨c, d⟩, _⟩; exact ⟨a, b, c, d⟩
    · rintro ⟨a, b, c, d⟩; exact ⟨a, b, ⟨c, d⟩, c, by omega⟩
def inP (s l : Int) (f : Bool) (it : It) : Bool := if it.b < it.e then decide (it.b < l) && decide (s < it.e) else decide (it.b = s) || ((decide (s < it.b) && decide (it.b < l)) || (decide (it.b = l) && f))
theorem xpg {σ : St} {n : Nat} {w0 w3 w4 w5 w6 w7 w8 w9 w10 : PV} {it : It} {s l : Int} {f : Bool} (ho : σ.objs n = .inst 0 [w0, .int it.b, .int it.e, w3, w4, w5, w6, w7, w8, w9, w10]) : xi6 [.ref n, .int s, .int l, .bool f] σ = some (.bool (inP s l f it), σ) := by
  unfold xi6 xaT
  show bnd (xkE [some (.ref n), some (.int s), some (.int l), some (.bool f)] σ) _ = _
  unfold xkE
  unfold inP
  by_cases h : it.b < it.e
  · rw [if_pos h]
    rw [xb8 (v := .bool (decide (it.b < l) && decide (s < it.e))) (fr1 := [some (.ref n), some (.int s), some (.int l), some (.bool f)]) (σ1 := σ) (by
      simp only [xa5, xcA, xa9, xa3, xap, xaN, xal, xaI, List.lookup, sIf, xaP, xdY, xew, xai, xg3, cLt, cGt, xaC, List.getElem?_cons_zero, List.getElem?_cons_succ, beq_self_eq_true, ↓reduceIte, decide_true, ho, xoC, h]
      by_cases q : it.b < l <;> simp [q, xap])]
    rfl
  · rw [if_neg h]
    rw [xam (σ1 := σ) (by simp only [xa5, xcA, xa9, xa3, xap, xaN, xal, xaI, List.lookup, sIf, xaP, xai, xg3, cLt, cGt, xaC, List.getElem?_cons_zero, List.getElem?_cons_succ, beq_self_eq_true, Bool.false_eq_true, ↓reduceIte, decide_false, ho, h]) (xb8 (v := .bool (decide (it.b = s) || ((decide (s < it.b) && decide (it.b < l)) || (decide (it.b = l) && f)))) (fr1 := [some (.ref n), some (.int s), some (.int l), some (.bool f)]) (σ1 := σ) (by
      have ha : xa9 xal (xa3 0) [some (.ref n), some (.int s), some (.int l), some (.bool f)] σ = some (.int it.b, σ) := xd4 rfl ho rfl rfl
      have c1 : xdY (xa9 xal (xa3 0)) (xai cEq (xa3 1)) [some (.ref n), some (.int s), some (.int l), some (.bool f)] σ = some (.bool (decide (it.b = s)), σ) := by
        unfold xdY; rw [xaj ha]; rfl
      have c2 : xdY (xa3 1) (xbQ cLt (xa9 xal (xa3 0)) (xai cLt (xa3 2))) [some (.ref n), some (.int s), some (.int l), some (.bool f)] σ = some (.bool (decide (s < it.b) && decide (it.b < l)), σ) := by
        unfold xdY xbQ
        show bnd (bnd (xa9 xal (xa3 0) _ _) _) _ = _
        rw [xaj ha]
        by_cases q : s < it.b
        · simp only [xa3, xap, xai, xg3, cLt, List.getElem?_cons_zero, List.getElem?_cons_succ, decide_true, q, Bool.true_and]
        · simp only [xap, xg3, cLt, decide_false, q, Bool.false_and]
      have c3 : xoC (xdY (xa9 xal (xa3 0)) (xai cEq (xa3 2))) (xa3 3) [some (.ref n), some (.int s), some (.int l), some (.bool f)] σ = some (.bool (decide (it.b = l) && f), σ) := by
        have : xdY (xa9 xal (xa3 0)) (xai cEq (xa3 2)) [some (.ref n), some (.int s), some (.int l), some (.bool f)] σ = some (.bool (decide (it.b = l)), σ) := by
          unfold xdY; rw [xaj ha]; rfl
        exact xsm this rfl
      exact xaj (xmr c1 (xmr c2 c3))))]
    rfl
theorem xso (P : PS σ g t) (s l z : Int) : ∃ (r : Nat) (σ' : St) (t' : T) (L : List Nat), xcE [.ref g.hm, .int s, .int l, .int z] σ = some (.ref r, σ') ∧ PS σ' g t' ∧ Unt g σ σ' ∧ σ.next ≤ r ∧ r < σ'.next ∧ σ'.objs r = .list (L.map (fun k => .ref (g.ov k))) ∧ L.Nodup ∧ L.length ≤ 6 ∧ ∀ k, k ∈ L ↔ k < g.N ∧ g.lv k = true ∧ inP s l (decide (l = z)) (g.it k) = true ∧ nbP s l (g.it k) = true := by
  obtain ⟨fl, σ1, t1, n1, n2, n3, n4, n5, n6, n7, n8, n9⟩ := P.nb s l
  have hh := P.home
  have hnb : xad xb0 (xa1 (xa9 xbv (xa3 0)) (xa1 (xa3 1) (xa1 (xa3 2) xa8))) [some (.ref g.hm), some (.int s), some (.int l), some (.int z), none] σ = some (.ref fl, σ1) :=
    xb2 (vs := [.ref g.tr, .int s, .int l]) (σ0 := σ) (by simp only [xa9, xa3, xap, xa1, xa8, xaN, xbv, List.lookup, List.getElem?_cons_zero, List.getElem?_cons_succ, beq_self_eq_true, hh]) n1
  generalize hσ2 : σ1.set fl (.flist (((t.inord 0).filter (nbP s l)).map (fun it => .ref it.id))) = σ2
  have hit : xbo (.ref fl) σ1 = some (((t.inord 0).filter (nbP s l)).map (fun it => PV.ref it.id), σ2) := by rw [xd0 n8, hσ2]
  have o2 : ∀ a, a ≠ fl → σ2.objs a = σ1.objs a := fun a ha => by rw [← hσ2, xao, if_neg ha]
  have x2 : σ2.next = σ1.next := by rw [← hσ2]; rfl
  have hlen : ((t.inord 0).filter (nbP s l)).length ≤ 6 := Nat.le_trans (List.length_filter_le _ _) P.len
  have hin : ∀ it ∈ (t.inord 0).filter (nbP s l), it.id < σ.next := fun it h => by
    obtain ⟨k1, k2, k3⟩ := P.itOf (List.mem_filter.mp h).1
    rw [k3]; exact P.lnd _ k1
  have hcomp := xds (keep := [false, true, true, true, false]) (a := xad xb0 (xa1 (xa9 xbv (xa3 0)) (xa1 (xa3 1) (xa1 (xa3 2) xa8)))) (t := xbe (xad xi6 (xa1 (xa3 0) (xa1 (xa3 2) (xa1 (xa3 3) (xa1 (xdY (xa3 3) (xai cEq (xa3 4))) xa8)))))) (e := xa3 0) (fr := [some (.ref g.hm), some (.int s), some (.int l), some (.int z), none]) (σ0 := σ) (b := inP s l (decide (l = z))) (f := fun it => .ref it.id) hnb hit (by omega) (fun it h => by
      obtain ⟨w3, w4, w5, w6, w7, w8, w9, w10, ho⟩ := n9 it h
      have hid := hin it h
      have ho2 : σ2.objs it.id = _ := (o2 _ (by omega)).trans ho
      unfold xbe
      rw [xaj (xb2 (vs := [.ref it.id, .int s, .int l, .bool (decide (l = z))]) (σ0 := σ2) (by simp only [xa3, xap, xa1, xa8, xdY, xai, List.getElem?_cons_zero, List.getElem?_cons_succ, Bool.false_eq_true, Option.some.injEq, Prod.mk.injEq, ↓reduceIte, xeO, cEq]; exact ⟨rfl, trivial⟩) (xpg ho2))]
      rfl) (fun it h _ => rfl)
  rw [x2] at hcomp
  have hfil : (((t.inord 0).filter (nbP s l)).filter (inP s l (decide (l = z)))) = (t1.inord 0).filter (fun it => inP s l (decide (l = z)) it && nbP s l it) := by rw [List.filter_filter, n6]
  rw [hfil] at hcomp
  generalize hσ3 : σ2.push (.list (((t1.inord 0).filter (fun it => inP s l (decide (l = z)) it && nbP s l it)).map (fun it => .ref it.id))) = σ3 at hcomp
  have x3 : σ3.next = σ1.next + 1 := by rw [← hσ3, ← x2]; rfl
  have o3 : ∀ a, a < σ.next → σ3.objs a = σ1.objs a := fun a ha => by
    have hlt := n3.next
    rw [← hσ3]
    show (if a = σ2.next then _ else σ2.objs a) = _
    rw [if_neg (by omega), o2 _ (by omega)]
  have l3 : σ3.objs σ1.next = .list (((t1.inord 0).filter (fun it => inP s l (decide (l = z)) it && nbP s l it)).map (fun it => .ref it.id)) := by rw [← hσ3]; exact if_pos x2.symm
  have P3 : PS σ3 g t1 := P.move n2 o3 (by omega)
  have hl6 : ((t1.inord 0).filter (fun it => inP s l (decide (l = z)) it && nbP s l it)).length ≤ 6 := by
    have h1 := List.length_filter_le (fun it => inP s l (decide (l = z)) it && nbP s l it) (t1.inord 0)
    rw [n6] at h1 ⊢; have := P.len; omega
  obtain ⟨σ4, e1, e2, e3, e4, e5⟩ := xo4 (σ0 := σ) P P3 (I := (t1.inord 0).filter (fun it => inP s l (decide (l = z)) it && nbP s l it)) (fun it h => (List.mem_filter.mp h).1) (by omega) l3 (by have := n3.next; omega) (by omega)
  obtain ⟨k1, k2⟩ := P3.pick (fun it => inP s l (decide (l = z)) it && nbP s l it)
  refine ⟨σ3.next, σ4, t1, ((t1.inord 0).filter (fun it => inP s l (decide (l = z)) it && nbP s l it)).map xf5, ?_, e2, ⟨?_, fun a h1 h2 => ?_⟩, ?_, by omega, ?_, k1, ?_, fun k => ?_⟩
  · unfold xcE xaT
    show bnd (xe9 [some (.ref g.hm), some (.int s), some (.int l), some (.int z), none] σ) _ = _
    unfold xe9
    rw [xav (fr1 := [some (.ref g.hm), some (.int s), some (.int l), some (.int z), some (.ref σ1.next)]) (σ1 := σ3) (by
      unfold xak
      rw [xaj hcomp]
      rfl) (xb8 (v := .ref σ3.next) (fr1 := [some (.ref g.hm), some (.int s), some (.int l), some (.int z), some (.ref σ1.next)]) (σ1 := σ4) (by
      unfold xcA
      rw [xaj (xb2 (vs := [.ref g.hm, .ref σ1.next]) (σ0 := σ3) rfl e1)]))]
    rfl
  · have := n3.next; omega
  · have hlt := n3.next
    rw [e4 a (by omega) (by omega), o3 a h1]; exact n3.old a h1 h2
  · have := n3.next; omega
  · rw [e5, List.map_map]; rfl
  · rw [List.length_map]; exact hl6
  · rw [k2, Bool.and_eq_true]
end
end
section
open PySem
def xen (p m x : Int) : Int := if p < x ∧ x < m then x else m
def xnb (p : Int) : Int → List It → Int
  | m, [] => m
  | m, it :: I => xnb p (xen p (xen p m it.b) it.e) I
theorem xmv (p : Int) : ∀ (I : List It) (m : Int), xnb p m I ≤ m ∧ (∀ it ∈ I, ∀ x, x = it.b ∨ x = it.e → p < x → xnb p m I ≤ x) ∧ (xnb p m I = m ∨ ∃ it ∈ I, (xnb p m I = it.b ∨ xnb p m I = it.e) ∧ p < xnb p m I ∧ xnb p m I < m)
  | [], m => ⟨Int.le_refl _, (fun _ h => nomatch h), .inl rfl⟩
  | it :: I, m => by
    obtain ⟨h1, h2, h3⟩ := xmv p I (xen p (xen p m it.b) it.e)
    have e : xnb p m (it :: I) = xnb p (xen p (xen p m it.b) it.e) I := rfl
    rw [e]
    generalize xnb p (xen p (xen p m it.b) it.e) I = M at h1 h2 h3
    have s1 : xen p m it.b ≤ m := by unfold xen; split <;> omega
    have s2 : xen p (xen p m it.b) it.e ≤ xen p m it.b := by unfold xen; split <;> omega
    have s3 : ∀ x, x = it.b → p < x → xen p m it.b ≤ x := fun x q h => by unfold xen; subst q; split <;> omega
    have s4 : ∀ x, x = it.e → p < x → xen p (xen p m it.b) it.e ≤ x := fun x q h => by
      generalize xen p m it.b = m1
      unfold xen; subst q; split <;> omega
    have s5 : xen p m it.b = m ∨ (xen p m it.b = it.b ∧ p < xen p m it.b ∧ xen p m it.b < m) := by
      unfold xen; split
      · rename_i q; exact .inr ⟨rfl, by omega, by omega⟩
      · exact .inl rfl
    have s6 : xen p (xen p m it.b) it.e = xen p m it.b ∨ (xen p (xen p m it.b) it.e = it.e ∧ p < xen p (xen p m it.b) it.e ∧ xen p (xen p m it.b) it.e < xen p m it.b) := by
      generalize xen p m it.b = m1
      unfold xen; split
      · rename_i q; exact .inr ⟨rfl, by omega, by omega⟩
      · exact .inl rfl
    generalize hm2 : xen p (xen p m it.b) it.e = m2 at h1 h2 h3 s2 s4 s6
    generalize xen p m it.b = m1 at s1 s2 s3 s5 s6
    refine ⟨by omega, fun z hz x hx hin => ?_, ?_⟩
    · rcases List.mem_cons.mp hz with rfl | hz
      · rcases hx with hx | hx
        · have := s3 x hx hin; omega
        · have := s4 x hx hin; omega
      · exact h2 z hz x hx hin
    · rcases h3 with h3 | ⟨z, k1, k2, k3, k4⟩
      · rcases s6 with s6 | ⟨s6, q1, q2⟩
        · rcases s5 with s5 | ⟨s5, q3, q4⟩
          · exact .inl (by omega)
          · exact .inr ⟨it, List.mem_cons_self .., .inl (by omega), by omega, by omega⟩
        · exact .inr ⟨it, List.mem_cons_self .., .inr (by omega), by omega, by omega⟩
      · exact .inr ⟨z, List.mem_cons_of_mem _ k1, k2, by omega, by omega⟩
noncomputable def xtm : xa6 → M (FR × xa6) := (xa5 (sIf (xaP (xa3 1) (xbQ cLt (xa3 5) (xai cLt (xa3 3)))) (xa5 (xak 3 (xa3 5)) xaC) xaC) xaC)
theorem xol {σ : St} {h nd z : Option PV} {p m x : Int} : xtm [h, some (.int p), z, some (.int m), nd, some (.int x)] σ = some ((.next, [h, some (.int p), z, some (.int (xen p m x)), nd, some (.int x)]), σ) := by
  unfold xtm xen
  by_cases q1 : p < x <;> by_cases q2 : x < m <;> simp only [xa5, xak, xa3, xap, sIf, xaP, xai, xg3, cLt, xaC, List.getElem?_cons_zero, List.getElem?_cons_succ, List.set, Bool.false_eq_true, ↓reduceIte, decide_true, decide_false, xbQ, q1, q2, and_true, and_false, false_and]
noncomputable def xtK : xa6 → M (FR × xa6) := (xa5 (xeE 5 (xeJ (xa1 (xa9 xal (xa3 4)) (xa1 (xa9 xaI (xa3 4)) xa8))) xtm) xaC)
theorem xrf {σ : St} {h y z : Option PV} {p m : Int} {n : Nat} {w0 w3 w4 w5 w6 w7 w8 w9 w10 : PV} {b e : Int} (ho : σ.objs n = .inst 0 [w0, .int b, .int e, w3, w4, w5, w6, w7, w8, w9, w10]) :
    xtK [h, some (.int p), z, some (.int m), some (.ref n), y] σ = some ((.next, [h, some (.int p), z, some (.int (xen p (xen p m b) e)), some (.ref n), some (.int e)]), σ) := by
  unfold xtK
  refine xav ?_ rfl
  have ht : xeJ (xa1 (xa9 xal (xa3 4)) (xa1 (xa9 xaI (xa3 4)) xa8)) [h, some (.int p), z, some (.int m), some (.ref n), y] σ = some (.tup [.int b, .int e], σ) := by
    simp only [xa9, xa3, xap, xeJ, xa1, xa8, xaN, xal, xaI, List.lookup, List.length, List.getElem?_cons_zero, List.getElem?_cons_succ, beq_self_eq_true, ↓reduceIte, Nat.reduceAdd, Nat.reduceLeDiff, ho]
  unfold xeE
  rw [xaj ht]
  show bnd (xtm [h, some (.int p), z, some (.int m), some (.ref n), some (.int b)] σ) _ = _
  rw [xaj xol]
  show bnd (xtm [h, some (.int p), z, some (.int (xen p m b)), some (.ref n), some (.int e)] σ) _ = _
  rw [xaj xol]
  rfl
theorem xou {σ : St} {h z : Option PV} {p : Int} : ∀ (I : List It) (m : Int) (n y : Option PV), (∀ it ∈ I, ∃ w0 w3 w4 w5 w6 w7 w8 w9 w10, σ.objs it.id = .inst 0 [w0, .int it.b, .int it.e, w3, w4, w5, w6, w7, w8, w9, w10]) →
    ∃ n' y', xeN 4 xtK (I.map (fun it => PV.ref it.id)) [h, some (.int p), z, some (.int m), n, y] σ = some ((.next, [h, some (.int p), z, some (.int (xnb p m I)), n', y']), σ)
  | [], m, n, y, _ => ⟨n, y, rfl⟩
  | it :: I, m, n, y, hI => by
    obtain ⟨w0, w3, w4, w5, w6, w7, w8, w9, w10, ho⟩ := hI it (List.mem_cons_self ..)
    obtain ⟨n', y', h1⟩ := xou I (xen p (xen p m it.b) it.e) (some (.ref it.id)) (some (.int it.e)) (fun x hx => hI x (List.mem_cons_of_mem _ hx))
    refine ⟨n', y', ?_⟩
    show bnd (xtK [h, some (.int p), z, some (.int m), some (.ref it.id), y] σ) _ = _
    rw [xaj (xrf ho)]
    exact h1
theorem xtt {σ : St} {g : G} {t : T} (P : PS σ g t) (p z : Int) : ∃ (M : Int) (σ' : St) (t' : T), xbs [.ref g.hm, .int p, .int z] σ = some (.int M, σ') ∧ PS σ' g t' ∧ Unt g σ σ' ∧ M ≤ z ∧ (∀ k, k < g.N → g.lv k = true → ∀ x, x = g.B k ∨ x = g.E k → p < x → x < z → M ≤ x) ∧ (M = z ∨ ∃ k, k < g.N ∧ g.lv k = true ∧ (M = g.B k ∨ M = g.E k) ∧ p < M ∧ M < z) := by
  obtain ⟨fl, σ1, t1, n1, n2, n3, n4, n5, n6, n7, n8, n9⟩ := P.nb p z
  have hh := P.home
  have hnb : xad xb0 (xa1 (xa9 xbv (xa3 0)) (xa1 (xa3 1) (xa1 (xa3 2) xa8))) [some (.ref g.hm), some (.int p), some (.int z), some (.int z), none, none] σ = some (.ref fl, σ1) :=
    xb2 (vs := [.ref g.tr, .int p, .int z]) (σ0 := σ) (by simp only [xa9, xa3, xap, xa1, xa8, xaN, xbv, List.lookup, List.getElem?_cons_zero, List.getElem?_cons_succ, beq_self_eq_true, hh]) n1
  generalize hσ2 : σ1.set fl (.flist (((t.inord 0).filter (nbP p z)).map (fun it => .ref it.id))) = σ2
  have hit : xbo (.ref fl) σ1 = some (((t.inord 0).filter (nbP p z)).map (fun it => PV.ref it.id), σ2) := by rw [xd0 n8, hσ2]
  have o2 : ∀ a, a ≠ fl → σ2.objs a = σ1.objs a := fun a ha => by rw [← hσ2, xao, if_neg ha]
  have x2 : σ2.next = σ1.next := by rw [← hσ2]; rfl
  have hin : ∀ it ∈ (t.inord 0).filter (nbP p z), it.id < σ.next := fun it h => by
    obtain ⟨k1, k2, k3⟩ := P.itOf (List.mem_filter.mp h).1
    rw [k3]; exact P.lnd _ k1
  obtain ⟨n', y', hlo⟩ := xou (σ := σ2) (h := some (.ref g.hm)) (z := some (.int z)) (p := p) ((t.inord 0).filter (nbP p z)) z none none (fun it h => by
    obtain ⟨w3, w4, w5, w6, w7, w8, w9, w10, ho⟩ := n9 it h
    have hid := hin it h
    exact ⟨_, _, _, _, _, _, _, _, _, (o2 _ (by omega)).trans ho⟩)
  obtain ⟨f1, f2, f3⟩ := xmv p ((t.inord 0).filter (nbP p z)) z
  have P2 : PS σ2 g t1 := P.move n2 (fun a ha => o2 a (by omega)) (by omega)
  refine ⟨xnb p z ((t.inord 0).filter (nbP p z)), σ2, t1, ?_, P2, ⟨by have := n3.next; omega, fun a h1 h2 => by rw [o2 a (by omega)]; exact n3.old a h1 h2⟩, f1, fun k hk hl x hx q1 q2 => ?_, ?_⟩
  · unfold xbs xaT
    show bnd (xce [some (.ref g.hm), some (.int p), some (.int z), none, none, none] σ) _ = _
    unfold xce
    rw [xav (fr1 := [some (.ref g.hm), some (.int p), some (.int z), some (.int z), none, none]) (σ1 := σ) rfl (xav (fr1 := [some (.ref g.hm), some (.int p), some (.int z), some (.int (xnb p z ((t.inord 0).filter (nbP p z)))), n', y']) (σ1 := σ2) (by
      unfold xeE
      rw [xaj hnb]
      show (match xbo (.ref fl) σ1 with | some (vs, σ2) => _ | none => none) = _
      rw [hit]
      exact hlo) (xb8 (v := .int (xnb p z ((t.inord 0).filter (nbP p z)))) (fr1 := [some (.ref g.hm), some (.int p), some (.int z), some (.int (xnb p z ((t.inord 0).filter (nbP p z)))), n', y']) (σ1 := σ2) rfl))]
    rfl
  · refine f2 (g.it k) (List.mem_filter.mpr ⟨P.itMem hk hl, ?_⟩) x hx q1
    have hbe := P.be k hk hl
    show (decide (g.B k ≤ z) && decide (p ≤ g.E k)) = true
    rw [Bool.and_eq_true, decide_eq_true_eq, decide_eq_true_eq]
    rcases hx with rfl | rfl <;> exact ⟨by omega, by omega⟩
  · rcases f3 with f3 | ⟨it, k1, k2, k3, k4⟩
    · exact .inl f3
    · obtain ⟨j1, j2, j3⟩ := P.itOf (List.mem_filter.mp k1).1
      rw [j3] at k2
      exact .inr ⟨xf5 it, j1, j2, k2, k3, k4⟩
def xer (p m x : Int) : Int := if m < x ∧ x < p then x else m
def xn8 (p : Int) : Int → List It → Int
  | m, [] => m
  | m, it :: I => xn8 p (xer p (xer p m it.b) it.e) I
theorem xn2 (p : Int) : ∀ (I : List It) (m : Int), m ≤ xn8 p m I ∧ (∀ it ∈ I, ∀ x, x = it.b ∨ x = it.e → x < p → x ≤ xn8 p m I) ∧ (xn8 p m I = m ∨ ∃ it ∈ I, (xn8 p m I = it.b ∨ xn8 p m I = it.e) ∧ xn8 p m I < p ∧ m < xn8 p m I)
  | [], m => ⟨Int.le_refl _, (fun _ h => nomatch h), .inl rfl⟩
  | it :: I, m => by
    obtain ⟨h1, h2, h3⟩ := xn2 p I (xer p (xer p m it.b) it.e)
    have e : xn8 p m (it :: I) = xn8 p (xer p (xer p m it.b) it.e) I := rfl
    rw [e]
    generalize xn8 p (xer p (xer p m it.b) it.e) I = M at h1 h2 h3
    have s1 : m ≤ xer p m it.b := by unfold xer; split <;> omega
    have s2 : xer p m it.b ≤ xer p (xer p m it.b) it.e := by unfold xer; split <;> omega
    have s3 : ∀ x, x = it.b → x < p → x ≤ xer p m it.b := fun x q h => by unfold xer; subst q; split <;> omega
    have s4 : ∀ x, x = it.e → x < p → x ≤ xer p (xer p m it.b) it.e := fun x q h => by
      generalize xer p m it.b = m1
      unfold xer; subst q; split <;> omega
    have s5 : xer p m it.b = m ∨ (xer p m it.b = it.b ∧ xer p m it.b < p ∧ m < xer p m it.b) := by
      unfold xer; split
      · rename_i q; exact .inr ⟨rfl, by omega, by omega⟩
      · exact .inl rfl
    have s6 : xer p (xer p m it.b) it.e = xer p m it.b ∨ (xer p (xer p m it.b) it.e = it.e ∧ xer p (xer p m it.b) it.e < p ∧ xer p m it.b < xer p (xer p m it.b) it.e) := by
      generalize xer p m it.b = m1
      unfold xer; split
      · rename_i q; exact .inr ⟨rfl, by omega, by omega⟩
      · exact .inl rfl
    generalize hm2 : xer p (xer p m it.b) it.e = m2 at h1 h2 h3 s2 s4 s6
    generalize xer p m it.b = m1 at s1 s2 s3 s5 s6
    refine ⟨by omega, fun z hz x hx hin => ?_, ?_⟩
    · rcases List.mem_cons.mp hz with rfl | hz
      · rcases hx with hx | hx
        · have := s3 x hx hin; omega
        · have := s4 x hx hin; omega
      · exact h2 z hz x hx hin
    · rcases h3 with h3 | ⟨z, k1, k2, k3, k4⟩
      · rcases s6 with s6 | ⟨s6, q1, q2⟩
        · rcases s5 with s5 | ⟨s5, q3, q4⟩
          · exact .inl (by omega)
          · exact .inr ⟨it, List.mem_cons_self .., .inl (by omega), by omega, by omega⟩
        · exact .inr ⟨it, List.mem_cons_self .., .inr (by omega), by omega, by omega⟩
      · exact .inr ⟨z, List.mem_cons_of_mem _ k1, k2, by omega, by omega⟩
noncomputable def xsR : xa6 → M (FR × xa6) := (xa5 (sIf (xaP (xa3 3) (xbQ cLt (xa3 5) (xai cLt (xa3 1)))) (xa5 (xak 3 (xa3 5)) xaC) xaC) xaC)
theorem xog {σ : St} {h nd z : Option PV} {p m x : Int} : xsR [h, some (.int p), z, some (.int m), nd, some (.int x)] σ = some ((.next, [h, some (.int p), z, some (.int (xer p m x)), nd, some (.int x)]), σ) := by
  unfold xsR xer
  by_cases q1 : m < x <;> by_cases q2 : x < p <;> simp only [xa5, xak, xa3, xap, sIf, xaP, xai, xg3, cLt, xaC, List.getElem?_cons_zero, List.getElem?_cons_succ, List.set, Bool.false_eq_true, ↓reduceIte, decide_true, decide_false, xbQ, q1, q2, and_true, and_false, false_and]
noncomputable def xtF : xa6 → M (FR × xa6) := (xa5 (xeE 5 (xeJ (xa1 (xa9 xal (xa3 4)) (xa1 (xa9 xaI (xa3 4)) xa8))) xsR) xaC)
theorem xrd {σ : St} {h y z : Option PV} {p m : Int} {n : Nat} {w0 w3 w4 w5 w6 w7 w8 w9 w10 : PV} {b e : Int} (ho : σ.objs n = .inst 0 [w0, .int b, .int e, w3, w4, w5, w6, w7, w8, w9, w10]) :
    xtF [h, some (.int p), z, some (.int m), some (.ref n), y] σ = some ((.next, [h, some (.int p), z, some (.int (xer p (xer p m b) e)), some (.ref n), some (.int e)]), σ) := by
  unfold xtF
  refine xav ?_ rfl
  have ht : xeJ (xa1 (xa9 xal (xa3 4)) (xa1 (xa9 xaI (xa3 4)) xa8)) [h, some (.int p), z, some (.int m), some (.ref n), y] σ = some (.tup [.int b, .int e], σ) := by
    simp only [xa9, xa3, xap, xeJ, xa1, xa8, xaN, xal, xaI, List.lookup, List.length, List.getElem?_cons_zero, List.getElem?_cons_succ, beq_self_eq_true, ↓reduceIte, Nat.reduceAdd, Nat.reduceLeDiff, ho]
  unfold xeE
  rw [xaj ht]
  show bnd (xsR [h, some (.int p), z, some (.int m), some (.ref n), some (.int b)] σ) _ = _
  rw [xaj xog]
  show bnd (xsR [h, some (.int p), z, some (.int (xer p m b)), some (.ref n), some (.int e)] σ) _ = _
  rw [xaj xog]
  rfl
theorem xot {σ : St} {h z : Option PV} {p : Int} : ∀ (I : List It) (m : Int) (n y : Option PV), (∀ it ∈ I, ∃ w0 w3 w4 w5 w6 w7 w8 w9 w10, σ.objs it.id = .inst 0 [w0, .int it.b, .int it.e, w3, w4, w5, w6, w7, w8, w9, w10]) →
    ∃ n' y', xeN 4 xtF (I.map (fun it => PV.ref it.id)) [h, some (.int p), z, some (.int m), n, y] σ = some ((.next, [h, some (.int p), z, some (.int (xn8 p m I)), n', y']), σ)
  | [], m, n, y, _ => ⟨n, y, rfl⟩
  | it :: I, m, n, y, hI => by
    obtain ⟨w0, w3, w4, w5, w6, w7, w8, w9, w10, ho⟩ := hI it (List.mem_cons_self ..)
    obtain ⟨n', y', h1⟩ := xot I (xer p (xer p m it.b) it.e) (some (.ref it.id)) (some (.int it.e)) (fun x hx => hI x (List.mem_cons_of_mem _ hx))
    refine ⟨n', y', ?_⟩
    show bnd (xtF [h, some (.int p), z, some (.int m), some (.ref it.id), y] σ) _ = _
    rw [xaj (xrd ho)]
    exact h1
theorem xsV {σ : St} {g : G} {t : T} (P : PS σ g t) (p z : Int) : ∃ (M : Int) (σ' : St) (t' : T), xbg [.ref g.hm, .int p, .int z] σ = some (.int M, σ') ∧ PS σ' g t' ∧ Unt g σ σ' ∧ z ≤ M ∧ (∀ k, k < g.N → g.lv k = true → ∀ x, x = g.B k ∨ x = g.E k → x < p → z < x → x ≤ M) ∧ (M = z ∨ ∃ k, k < g.N ∧ g.lv k = true ∧ (M = g.B k ∨ M = g.E k) ∧ M < p ∧ z < M) := by
  obtain ⟨fl, σ1, t1, n1, n2, n3, n4, n5, n6, n7, n8, n9⟩ := P.nb z p
  have hh := P.home
  have hnb : xad xb0 (xa1 (xa9 xbv (xa3 0)) (xa1 (xa3 2) (xa1 (xa3 1) xa8))) [some (.ref g.hm), some (.int p), some (.int z), some (.int z), none, none] σ = some (.ref fl, σ1) :=
    xb2 (vs := [.ref g.tr, .int z, .int p]) (σ0 := σ) (by simp only [xa9, xa3, xap, xa1, xa8, xaN, xbv, List.lookup, List.getElem?_cons_zero, List.getElem?_cons_succ, beq_self_eq_true, hh]) n1
  generalize hσ2 : σ1.set fl (.flist (((t.inord 0).filter (nbP z p)).map (fun it => .ref it.id))) = σ2
  have hit : xbo (.ref fl) σ1 = some (((t.inord 0).filter (nbP z p)).map (fun it => PV.ref it.id), σ2) := by rw [xd0 n8, hσ2]
  have o2 : ∀ a, a ≠ fl → σ2.objs a = σ1.objs a := fun a ha => by rw [← hσ2, xao, if_neg ha]
  have x2 : σ2.next = σ1.next := by rw [← hσ2]; rfl
  have hin : ∀ it ∈ (t.inord 0).filter (nbP z p), it.id < σ.next := fun it h => by
    obtain ⟨k1, k2, k3⟩ := P.itOf (List.mem_filter.mp h).1
    rw [k3]; exact P.lnd _ k1
  obtain ⟨n', y', hlo⟩ := xot (σ := σ2) (h := some (.ref g.hm)) (z := some (.int z)) (p := p) ((t.inord 0).filter (nbP z p)) z none none (fun it h => by
    obtain ⟨w3, w4, w5, w6, w7, w8, w9, w10, ho⟩ := n9 it h
    have hid := hin it h
    exact ⟨_, _, _, _, _, _, _, _, _, (o2 _ (by omega)).trans ho⟩)
  obtain ⟨f1, f2, f3⟩ := xn2 p ((t.inord 0).filter (nbP z p)) z
  have P2 : PS σ2 g t1 := P.move n2 (fun a ha => o2 a (by omega)) (by omega)
  refine ⟨xn8 p z ((t.inord 0).filter (nbP z p)), σ2, t1, ?_, P2, ⟨by have := n3.next; omega, fun a h1 h2 => by rw [o2 a (by omega)]; exact n3.old a h1 h2⟩, f1, fun k hk hl x hx q1 q2 => ?_, ?_⟩
  · unfold xbg xaT
    show bnd (xbW [some (.ref g.hm), some (.int p), some (.int z), none, none, none] σ) _ = _
    unfold xbW
    rw [xav (fr1 := [some (.ref g.hm), some (.int p), some (.int z), some (.int z), none, none]) (σ1 := σ) rfl (xav (fr1 := [some (.ref g.hm), some (.int p), some (.int z), some (.int (xn8 p z ((t.inord 0).filter (nbP z p)))), n', y']) (σ1 := σ2) (by
      unfold xeE
      rw [xaj hnb]
      show (match xbo (.ref fl) σ1 with | some (vs, σ2) => _ | none => none) = _
      rw [hit]
      exact hlo) (xb8 (v := .int (xn8 p z ((t.inord 0).filter (nbP z p)))) (fr1 := [some (.ref g.hm), some (.int p), some (.int z), some (.int (xn8 p z ((t.inord 0).filter (nbP z p)))), n', y']) (σ1 := σ2) rfl))]
    rfl
  · refine f2 (g.it k) (List.mem_filter.mpr ⟨P.itMem hk hl, ?_⟩) x hx q1
    have hbe := P.be k hk hl
    show (decide (g.B k ≤ p) && decide (z ≤ g.E k)) = true
    rw [Bool.and_eq_true, decide_eq_true_eq, decide_eq_true_eq]
    rcases hx with rfl | rfl <;> exact ⟨by omega, by omega⟩
  · rcases f3 with f3 | ⟨it, k1, k2, k3, k4⟩
    · exact .inl f3
    · obtain ⟨j1, j2, j3⟩ := P.itOf (List.mem_filter.mp k1).1
      rw [j3] at k2
      exact .inr ⟨xf5 it, j1, j2, k2, k3, k4⟩
end
section
open PySem
def G.shut (g : G) (a m : Int) : G := { g with B := fun k => gap a m (g.B k), E := fun k => gap a m (g.E k) }
def G.goneL : List Nat → G → G
  | [], g => g
  | k :: L, g => G.goneL L (g.gone k (decide (g.B k = g.E k) && g.fl k))
theorem xop : ∀ (L : List Nat) (g : G), G.goneL L g = { g with lv := (G.goneL L g).lv }
  | [], g => rfl
  | k :: L, g => by
    show G.goneL L _ = { g with lv := (G.goneL L _).lv }
    rw [xop L]
    rfl
theorem xor : ∀ (L : List Nat) (g : G) (j : Nat), (G.goneL L g).lv j = (g.lv j && !(decide (j ∈ L) && (decide (g.B j = g.E j) && g.fl j)))
  | [], g, j => by show g.lv j = _; simp
  | k :: L, g, j => by
    show (G.goneL L _).lv j = _
    rw [xor L]
    show ((if j = k then g.lv j && !(decide (g.B k = g.E k) && g.fl k) else g.lv j) && !(decide (j ∈ L) && (decide (g.B j = g.E j) && g.fl j))) = _
    by_cases h : j = k
    · subst h
      cases g.lv j <;> cases decide (g.B j = g.E j) <;> cases g.fl j <;> simp
    · rw [if_neg h]
      simp only [List.mem_cons, h, false_or]
section
variable {σ σ' : St} {g : G} {t t' : T}
theorem PS.shut (P : PS σ g t) {a m : Int} (hm : 0 < m) (F : Far σ t.ids σ') (hT : xkn σ' g.tr t') (hub : t'.UB) (hs : t'.shape ∈ LS) (hi : t'.inord 0 = (t.inord 0).map (xrQ a m)) : PS σ' (g.shut a m) t' := by
  have o : ∀ x, x < σ.next → (g.tag x).1 ≠ 6 → σ'.objs x = σ.objs x := fun x h1 h3 => F.old x h1 (fun q => by
    obtain ⟨k, k1, _, rfl⟩ := P.tids q
    exact h3 (by rw [P.tnd k k1]))
  obtain ⟨lp, df, hr⟩ := P.rules
  obtain ⟨D, hD⟩ := P.dict
  refine ⟨?_, ⟨lp, df, ?_⟩, hT, hub, hs, ?_, fun it => ?_, fun k hk hl => xlK hm (P.be k hk hl), ⟨D, ?_, hD.2⟩, fun k hk => ?_, fun k hk => ?_, fun k hk hl => ?_, P.thm, P.tru, P.ttr, P.tod, P.tov, P.tnd, P.tpl, Nat.lt_of_lt_of_le P.lhm F.next, Nat.lt_of_lt_of_le P.lru F.next, Nat.lt_of_lt_of_le P.lod F.next, fun k hk => Nat.lt_of_lt_of_le (P.lov k hk) F.next, fun k hk => Nat.lt_of_lt_of_le (P.lnd k hk) F.next, fun k hk => Nat.lt_of_lt_of_le (P.lpl k hk) F.next⟩
  · show σ'.objs g.hm = _
    rw [o _ P.lhm (by rw [P.thm]; simp)]; exact P.home
  · show σ'.objs g.ru = _
    rw [o _ P.lru (by rw [P.tru]; simp)]; exact hr
  · rw [hi]
    exact List.pairwise_map.mpr (List.Pairwise.imp (fun h => xlK hm h) P.sorted)
  · rw [hi, List.mem_map]
    constructor
    · rintro ⟨x, h1, rfl⟩
      obtain ⟨k, h2, h3, rfl⟩ := (P.items x).mp h1
      exact ⟨k, h2, h3, rfl⟩
    · rintro ⟨k, h2, h3, rfl⟩
      exact ⟨g.it k, P.itMem h2 h3, rfl⟩
  · show σ'.objs g.od = _
    rw [o _ P.lod (by rw [P.tod]; simp)]; exact hD.1
  · show σ'.objs (g.ov k) = _
    rw [o _ (P.lov k hk) (by rw [P.tov k hk]; simp)]; exact P.over k hk
  · show σ'.objs (g.pl k) = _
    rw [o _ (P.lpl k hk) (by rw [P.tpl k hk]; simp)]; exact P.plist k hk
  · show xlZ k (σ'.objs (g.nd k))
    rw [F.old _ (P.lnd k hk) (P.ndNot hk hl)]
    exact P.node k hk hl
noncomputable def xon : xa6 → M (FR × xa6) := (xa5 (sIf (xcK (xaP (xa9 xal (xa9 xb9 (xa3 3))) (xai cEq (xa9 xaI (xa9 xb9 (xa3 3))))) (xcK (xbe (xad xbw (xa1 (xa9 xc9 (xa3 0)) (xa1 (xa3 3) xa8)))) xbV)) (xa5 (xb1 (xad xbA (xa1 (xa3 3) xa8)))
    xaC) xaC)
    xaC)
theorem xrZ (P : PS σ g t) {k : Nat} (hk : k < g.N) (hl : g.lv k = true) (x1 x2 : Option PV) :
    ∃ σ' t', xon [some (.ref g.hm), x1, x2, some (.ref (g.ov k))] σ = some ((.next, [some (.ref g.hm), x1, x2, some (.ref (g.ov k))]), σ') ∧ PS σ' (g.gone k (decide (g.B k = g.E k) && g.fl k)) t' ∧ Unt g σ σ' := by
  have hh := P.home
  have ho := P.over k hk
  obtain ⟨b, e, w3, w4, w5, w6, w7, w8, w9, w10, hn, hbe⟩ := xld P.tree.sub (g.it k) (P.itMem hk hl)
  have hn' : σ.objs (g.nd k) = .inst 0 [.int k, .int b, .int e, w3, w4, w5, w6, w7, w8, w9, w10] := hn
  have hbe' : e - b = g.E k - g.B k := hbe
  have an : xa9 xb9 (xa3 3) [some (.ref g.hm), x1, x2, some (.ref (g.ov k))] σ = some (.ref (g.nd k), σ) := xd4 (i := g.ov k) rfl ho rfl rfl
  have t1 : xaP (xa9 xal (xa9 xb9 (xa3 3))) (xai cEq (xa9 xaI (xa9 xb9 (xa3 3)))) [some (.ref g.hm), x1, x2, some (.ref (g.ov k))] σ = some (decide (g.B k = g.E k), σ) := by
    unfold xaP xai
    rw [xaj (xd4 an hn' rfl rfl), xaj (xd4 an hn' rfl rfl)]
    show some (decide (b = e), σ) = _
    congr 2
    exact decide_eq_decide.mpr ⟨fun h => by omega, fun h => by omega⟩
  have t2 : xad xbw (xa1 (xa9 xc9 (xa3 0)) (xa1 (xa3 3) xa8)) [some (.ref g.hm), x1, x2, some (.ref (g.ov k))] σ = some (.bool (g.fl k), σ) :=
    xb2 (vs := [.ref g.ru, .ref (g.ov k)]) (σ0 := σ) (xaR (xd4 (i := g.hm) rfl hh rfl rfl) rfl) (P.fleet hk)
  have ht : (xcK (xaP (xa9 xal (xa9 xb9 (xa3 3))) (xai cEq (xa9 xaI (xa9 xb9 (xa3 3))))) (xcK (xbe (xad xbw (xa1 (xa9 xc9 (xa3 0)) (xa1 (xa3 3) xa8)))) xbV)) [some (.ref g.hm), x1, x2, some (.ref (g.ov k))] σ = some (decide (g.B k = g.E k) && g.fl k, σ) := by
    unfold xcK xbe
    rw [xaj t1, xaj (xaj t2)]
    cases decide (g.B k = g.E k) <;> cases g.fl k <;> rfl
  unfold xon
  cases hc : (decide (g.B k = g.E k) && g.fl k) with
  | false =>
    rw [xhW]
    exact ⟨σ, t, xam (σ1 := σ) (by unfold sIf; rw [ht, hc]; rfl) rfl, P, .refl⟩
  | true =>
    rw [xjs]
    obtain ⟨σ2, t2', k1, k2, k3, _⟩ := xhw P hk hl
    exact ⟨σ2, t2', xam (σ1 := σ2) (by unfold sIf; rw [ht, hc]; exact xam (xbx (vs := [.ref (g.ov k)]) (σ0 := σ) rfl k1) rfl) rfl, k2, k3⟩
theorem xq2 (x1 x2 : Option PV) : ∀ (L : List Nat) {σ : St} {g : G} {t : T} (y : Option PV), PS σ g t → L.Nodup → (∀ k ∈ L, k < g.N ∧ g.lv k = true) →
    ∃ σ' t' y', xeN 3 xon (L.map (fun k => PV.ref (g.ov k))) [some (.ref g.hm), x1, x2, y] σ = some ((.next, [some (.ref g.hm), x1, x2, y']), σ') ∧ PS σ' (G.goneL L g) t' ∧ Unt g σ σ'
  | [], σ, g, t, y, P, _, _ => ⟨σ, t, y, rfl, P, .refl⟩
  | k :: L, σ, g, t, y, P, hn, hL => by
    rw [List.nodup_cons] at hn
    obtain ⟨h1, h2⟩ := hL k (List.mem_cons_self ..)
    obtain ⟨σ1, t1, e1, e2, e3⟩ := xrZ P h1 h2 x1 x2
    obtain ⟨σ2, t2, y2, f1, f2, f3⟩ := xq2 x1 x2 L (some (.ref (g.ov k))) e2 hn.2 (fun j hj => by
      obtain ⟨q1, q2⟩ := hL j (List.mem_cons_of_mem _ hj)
      refine ⟨q1, ?_⟩
      have : j ≠ k := fun q => hn.1 (by rw [← q]; exact hj)
      show (if j = k then _ else g.lv j) = true
      rw [if_neg this]; exact q2)
    refine ⟨σ2, t2, y2, ?_, f2, e3.trans ⟨f3.next, fun a h1 h2 => f3.old a h1 h2⟩⟩
    show bnd (xon [some (.ref g.hm), x1, x2, some (.ref (g.ov k))] σ) _ = _
    rw [xaj e1]
    exact f1
theorem xrk (P : PS σ g t) {a b : Int} (hab : a < b) : ∃ (p : PV) (σ' : St) (t' : T) (L : List Nat), xbq [.ref g.hm, .int a, .int b] σ = some (p, σ') ∧ PS σ' (G.goneL L (g.shut a (b - a))) t' ∧ Unt g σ σ' ∧ ∀ k, k ∈ L ↔ k < g.N ∧ g.lv k = true ∧ gap a (b - a) (g.B k) ≤ a ∧ a ≤ gap a (b - a) (g.E k) := by
  have hm : 0 < b - a := by omega
  have hh := P.home
  have hbe : ∀ it ∈ t.inord 0, it.b ≤ it.e := fun it h => by
    obtain ⟨k1, k2, k3⟩ := P.itOf h
    have := P.be _ k1 k2
    rw [k3]; exact this
  obtain ⟨σ1, t1, c1, c2, c3, c4, c5, c6⟩ := xsg (a := a) (m := b - a) P.tree P.ub P.shape P.sorted hbe hm
  have P1 := P.shut hm c6 c2 c5 c3 c4
  have U1 : Unt g σ σ1 := ⟨c6.next, fun x h1 h2 => c6.old x h1 (fun q => P.far_not (by omega) (by omega) (List.mem_cons_of_mem _ q))⟩
  obtain ⟨fl, σ2, t2, n1, n2, n3, n4, n5, n6, n7, n8, n9⟩ := P1.nb a a
  have hl6 : ((t1.inord 0).filter (nbP a a)).length ≤ 6 := Nat.le_trans (List.length_filter_le _ _) P1.len
  obtain ⟨σ3, e1, e2, e3, e4, e5⟩ := xo4 (σ0 := σ1) P1 n2 (I := (t1.inord 0).filter (nbP a a)) (fun it h => by rw [n6]; exact (List.mem_filter.mp h).1) (by omega) n8 n4 n5
  obtain ⟨k1, k2⟩ := P1.pick (nbP a a)
  have hlist : σ3.objs σ2.next = .list ((((t1.inord 0).filter (nbP a a)).map xf5).map (fun k => .ref (g.ov k))) := by rw [e5, List.map_map]; rfl
  generalize hL : ((t1.inord 0).filter (nbP a a)).map xf5 = L at k1 k2 hlist
  generalize hσ4 : σ3.set σ2.next (.flist (L.map (fun k => .ref (g.ov k)))) = σ4
  have o4 : ∀ x, x < σ2.next → σ4.objs x = σ3.objs x := fun x hx => by rw [← hσ4, xao, if_neg (by omega)]
  have x4 : σ4.next = σ3.next := by rw [← hσ4]; rfl
  have P4 : PS σ4 (g.shut a (b - a)) t2 := P1.move e2 (fun x hx => o4 x (by have := n3.next; omega)) (by omega)
  obtain ⟨σ5, t5, y5, f1, f2, f3⟩ := xq2 (some (.int a)) (some (.int (b - a))) L none P4 k1 (fun k hk => by have := (k2 k).mp hk; exact ⟨this.1, this.2.1⟩)
  have hit : xbo (.ref σ2.next) σ3 = some (L.map (fun k => PV.ref (g.ov k)), σ4) := by rw [xd0 hlist, hσ4]
  have hh1 : σ1.objs g.hm = .inst 3 [.ref g.tr, .ref g.od, .ref g.ru] := P1.home
  have hrun : xeC [.ref g.hm, .int a, .int (b - a)] σ = some (.none, σ5) := by
    unfold xeC xaT
    show bnd (xfv [some (.ref g.hm), some (.int a), some (.int (b - a)), none] σ) _ = _
    unfold xfv
    rw [xam (xbx (vs := [.ref g.tr, .int a, .int (b - a)]) (σ0 := σ) (xaR (xd4 (i := g.hm) rfl hh rfl rfl) rfl) c1) (xav (σ1 := σ5) (fr1 := [some (.ref g.hm), some (.int a), some (.int (b - a)), y5]) (by
      unfold xeE
      rw [xaj (xb2 (vs := [.ref g.hm, .ref fl]) (σ0 := σ2) (xaR rfl (xaR (xb2 (vs := [.ref g.tr, .int a, .int a]) (σ0 := σ1) (xaR (xd4 (i := g.hm) rfl hh1 rfl rfl) rfl) n1) rfl)) e1)]
      show (match xbo (.ref σ2.next) σ3 with | some (vs, σ2) => _ | none => none) = _
      rw [hit]
      exact f1) rfl)]
    rfl
  refine ⟨.none, σ5, t5, L, ?_, f2, ⟨?_, fun x h1 h2 => ?_⟩, fun k => ?_⟩
  · unfold xbq xaT
    show bnd (xcg [some (.ref g.hm), some (.int a), some (.int b)] σ) _ = _
    unfold xcg
    rw [xam (xbx (vs := [.ref g.hm, .int a, .int (b - a)]) (σ0 := σ) rfl hrun) rfl]
    rfl
  · have u1 := U1.next
    have u2 := n3.next
    have u3 := f3.next
    omega
  · have u1 := U1.next
    have u2 := n3.next
    have u3 := f3.next
    rw [f3.old x (by omega) h2, o4 x (by omega), e4 x (by omega) (by omega), n3.old x (by omega) h2, U1.old x h1 h2]
  · rw [k2]
    show _ ∧ _ ∧ ((decide (gap a (b - a) (g.B k) ≤ a) && decide (a ≤ gap a (b - a) (g.E k))) = true) ↔ _
    rw [Bool.and_eq_true, decide_eq_true_eq, decide_eq_true_eq]
    exact Iff.rfl
end
end
section
open PySem
theorem xrI : ∀ {l r : List Int}, l.Pairwise (· < ·) → r.Pairwise (· < ·) → (∀ x, x ∈ l ↔ x ∈ r) → l = r
  | [], [], _, _, _ => rfl
  | [], y :: r, _, _, h => by have := (h y).mpr (List.mem_cons_self ..); cases this
  | x :: l, [], _, _, h => by have := (h x).mp (List.mem_cons_self ..); cases this
  | x :: l, y :: r, h1, h2, h => by
    rw [List.pairwise_cons] at h1 h2
    have e : x = y := by
      rcases List.mem_cons.mp ((h x).mp (List.mem_cons_self ..)) with q | q
      · exact q
      · rcases List.mem_cons.mp ((h y).mpr (List.mem_cons_self ..)) with z | z
        · exact z.symm
        · have a := h2.1 x q; have b := h1.1 y z; omega
    subst e
    rw [xrI h1.2 h2.2 (fun z => ?_)]
    constructor
    · intro hz
      rcases List.mem_cons.mp ((h z).mp (List.mem_cons_of_mem _ hz)) with q | q
      · have := h1.1 z hz; omega
      · exact q
    · intro hz
      rcases List.mem_cons.mp ((h z).mpr (List.mem_cons_of_mem _ hz)) with q | q
      · have := h2.1 z hz; omega
      · exact q
def xcr (N : Nat) (p : Nat → Bool) : List Int := ((List.range N).filter p).map (fun k : Nat => (k : Int))
theorem xpc {N : Nat} {p : Nat → Bool} {x : Int} : x ∈ xcr N p ↔ ∃ k, k < N ∧ p k = true ∧ x = (k : Int) := by
  unfold xcr
  rw [List.mem_map]
  constructor
  · rintro ⟨k, h, rfl⟩
    rw [List.mem_filter, List.mem_range] at h
    exact ⟨k, h.1, h.2, rfl⟩
  · rintro ⟨k, h1, h2, rfl⟩
    exact ⟨k, by rw [List.mem_filter, List.mem_range]; exact ⟨h1, h2⟩, rfl⟩
theorem xpI (N : Nat) (p : Nat → Bool) : (xcr N p).Pairwise (· < ·) := by
  unfold xcr
  rw [List.pairwise_map]
  exact ((List.pairwise_lt_range (n := N)).sublist List.filter_sublist).imp (fun h => by omega)
theorem xkt (N : Nat) (p : Nat → Bool) : (xcr N p).length ≤ N := by
  unfold xcr
  rw [List.length_map]
  have := List.length_filter_le p (List.range N)
  rw [List.length_range] at this
  exact this
theorem xhU {l : List Int} {N : Nat} {p : Nat → Bool} (hn : l.Nodup) (h : ∀ x, x ∈ l ↔ ∃ k, k < N ∧ p k = true ∧ x = (k : Int)) : xkh l = xcr N p := by
  have hp := List.mergeSort_perm l (fun a b => decide (a ≤ b))
  have hs := List.pairwise_mergeSort (le := fun a b : Int => decide (a ≤ b)) (fun a b c h1 h2 => by simp at *; omega) (fun a b => by simp; omega) l
  have hn' : (xkh l).Nodup := hp.symm.nodup hn
  refine xrI ?_ (xpI N p) (fun x => ?_)
  · have h2 : (xkh l).Pairwise (fun a b => a ≤ b ∧ a ≠ b) := by
      rw [List.pairwise_and_iff]
      exact ⟨hs.imp (fun h => by simpa using h), hn'⟩
    exact h2.imp (fun h => by omega)
  · rw [xpc, ← h]
    exact hp.mem_iff
structure xfI (σ : St) (g : G) (ol : Nat) (w : Nat → Option (Int × Int × Bool)) (D : List (Int × PV)) : Prop where
  nd : (D.map (·.1)).Nodup
  get : ∀ k b e f, w k = some (b, e, f) → ∃ r, xil D k = some (.ref r) ∧ ol < r ∧ r < σ.next ∧ 10 ≤ (g.tag r).1 ∧ σ.objs r = .list [.int b, .int e, .bool f]
  mem : ∀ kv ∈ D, ∃ k : Nat, kv.1 = k ∧ (w k).isSome = true
  lt : ∀ k, (w k).isSome = true → k < g.N
def xuc (z : Bool) (D : List (Int × PV)) : xg2 := if z then .fdict D else .dict D
structure Adr where
  dk : Nat
  dr : Nat
  ow : Nat
  ol : Nat
structure Lw (σ : St) (g : G) (t : T) (A : Adr) (j : Int) (w : Nat → Option (Int × Int × Bool)) (z : Bool) (nV : Nat) : Prop where
  ps : PS σ g t
  fr : ∀ a, σ.next ≤ a → 10 ≤ (g.tag a).1
  tdk : 10 ≤ (g.tag A.dk).1
  tdr : 10 ≤ (g.tag A.dr).1
  tow : 10 ≤ (g.tag A.ow).1
  tol : 10 ≤ (g.tag A.ol).1
  o1 : A.dr < A.dk
  o2 : A.dk < A.ow
  o3 : A.ow < A.ol
  o4 : A.ol < σ.next
  dk : σ.objs A.dk = .list [.ref A.dr, .int j]
  dr : ∃ ks : List Int, ks.length ≤ 63 ∧ σ.objs A.dr = .list (ks.map .int)
  j0 : 0 ≤ j
  own : ∃ D, σ.objs A.ow = xuc z D ∧ xfI σ g A.ol w D
  ol : σ.objs A.ol = .list ((List.range nV).map (fun k => .ref (g.ov k)))
  nV : nV ≤ g.N
  nN : g.N ≤ 6
section
variable {σ σ' : St} {g g' : G} {t t' : T} {A : Adr} {j j' : Int} {w w' : Nat → Option (Int × Int × Bool)} {z z' : Bool} {nV nV' : Nat} {D : List (Int × PV)} {ol : Nat}
theorem PS.law (P : PS σ g t) (h : ∀ a, a < σ.next → (g.tag a).1 < 10 → σ'.objs a = σ.objs a) (hn : σ.next ≤ σ'.next) : PS σ' g t := by
  obtain ⟨lp, df, hr⟩ := P.rules
  obtain ⟨D, hD⟩ := P.dict
  have tl : ∀ a ∈ t.ids, a < σ.next ∧ (g.tag a).1 < 10 := fun a ha => by
    obtain ⟨k, h1, _, rfl⟩ := P.tids ha
    exact ⟨P.lnd k h1, by rw [P.tnd k h1]; simp⟩
  have trl := P.tree.lt _ (List.mem_cons_self ..)
  refine ⟨(h _ P.lhm (by rw [P.thm]; simp)).trans P.home, ⟨lp, df, (h _ P.lru (by rw [P.tru]; simp)).trans hr⟩, ⟨?_, Sub.of (fun a ha => h a (tl a ha).1 (tl a ha).2) P.tree.sub, P.tree.nodup, fun a ha => Nat.lt_of_lt_of_le (P.tree.lt a ha) hn⟩, P.ub, P.shape, P.sorted, P.items, P.be, ⟨D, (h _ P.lod (by rw [P.tod]; simp)).trans hD.1, hD.2⟩, fun k hk => (h _ (P.lov k hk) (by rw [P.tov k hk]; simp)).trans (P.over k hk), fun k hk => (h _ (P.lpl k hk) (by rw [P.tpl k hk]; simp)).trans (P.plist k hk), fun k hk hl => by rw [h _ (P.lnd k hk) (by rw [P.tnd k hk]; simp)]; exact P.node k hk hl, P.thm, P.tru, P.ttr, P.tod, P.tov, P.tnd, P.tpl, Nat.lt_of_lt_of_le P.lhm hn, Nat.lt_of_lt_of_le P.lru hn, Nat.lt_of_lt_of_le P.lod hn, fun k hk => Nat.lt_of_lt_of_le (P.lov k hk) hn, fun k hk => Nat.lt_of_lt_of_le (P.lnd k hk) hn, fun k hk => Nat.lt_of_lt_of_le (P.lpl k hk) hn⟩
  obtain ⟨cnt, hc⟩ := P.tree.root
  exact ⟨cnt, (h _ trl (by rw [P.ttr]; simp)).trans hc⟩
theorem xfI.mono (H : xfI σ g ol w D) (ht : ∀ a, a < σ.next → (g'.tag a) = (g.tag a)) (hN : g.N ≤ g'.N) (hn : σ.next ≤ σ'.next) (h : ∀ a, a < σ.next → ol < a → 10 ≤ (g.tag a).1 → σ'.objs a = σ.objs a) : xfI σ' g' ol w D :=
  ⟨H.nd, fun k b e f q => by
    obtain ⟨r, h1, h2, h3, h4, h5⟩ := H.get k b e f q
    exact ⟨r, h1, h2, Nat.lt_of_lt_of_le h3 hn, by rw [ht r h3]; exact h4, (h r h3 h2 h4).trans h5⟩, H.mem, fun k q => Nat.lt_of_lt_of_le (H.lt k q) hN⟩
theorem xfI.len (H : xfI σ g ol w D) : D.length ≤ g.N := by
  have hnn : (D.map (fun kv => kv.1.toNat)).Nodup := by
    have h2 := H.nd
    rw [List.nodup_iff_pairwise_ne, List.pairwise_map] at h2 ⊢
    refine List.Pairwise.imp_of_mem (fun {a b} ha hb hab q => hab ?_) h2
    obtain ⟨i, hi, _⟩ := H.mem a ha
    obtain ⟨j, hj, _⟩ := H.mem b hb
    rw [hi, hj] at q ⊢
    simp at q
    rw [q]
  have := xiJ (R := List.range g.N) hnn fun x hx => by
    obtain ⟨kv, hkv, rfl⟩ := List.mem_map.mp hx
    obtain ⟨i, e, hi⟩ := H.mem kv hkv
    have := H.lt i hi
    rw [e]; simpa using this
  rw [List.length_map, List.length_range] at this
  exact this
theorem xfI.keys (H : xfI σ g ol w D) (x : Int) : x ∈ D.map (·.1) ↔ ∃ k, k < g.N ∧ (w k).isSome = true ∧ x = (k : Int) := by
  constructor
  · intro h
    obtain ⟨kv, hkv, rfl⟩ := List.mem_map.mp h
    obtain ⟨k, h1, h2⟩ := H.mem kv hkv
    exact ⟨k, H.lt k h2, h2, h1⟩
  · rintro ⟨k, h1, h2, rfl⟩
    obtain ⟨⟨b, e, f⟩, hw⟩ := Option.isSome_iff_exists.mp h2
    obtain ⟨r, h3, _⟩ := H.get k b e f hw
    exact List.mem_map.mpr ⟨_, xlk h3, rfl⟩
theorem xfI.sort (H : xfI σ g ol w D) : xkh (D.map (·.1)) = xcr g.N (fun k => (w k).isSome) := xhU H.nd H.keys
theorem PS.sort (P : PS σ g t) : ∃ D, σ.objs g.od = .dict D ∧ D.length ≤ g.N ∧ xkh (D.map (·.1)) = xcr g.N g.lv := by
  obtain ⟨D, h1, h2, h3, h4, h5⟩ := P.dlen
  refine ⟨D, h1, h3, xhU h2 fun x => ?_⟩
  constructor
  · intro h
    obtain ⟨kv, hkv, rfl⟩ := List.mem_map.mp h
    obtain ⟨k, a, b, c⟩ := h5 kv hkv
    exact ⟨k, a, b, c⟩
  · rintro ⟨k, a, b, rfl⟩
    exact List.mem_map.mpr ⟨_, xlk (h4 k a b), rfl⟩
theorem Lw.prog (H : Lw σ g t A j w z nV) (P : PS σ' g' t') (U : Unt g σ σ') (ht : ∀ a, a < σ.next → g'.tag a = g.tag a) (hf : ∀ a, σ'.next ≤ a → 10 ≤ (g'.tag a).1) (hN : g.N ≤ g'.N) (hN' : g'.N ≤ 6) (hov : ∀ k, k < g.N → g'.ov k = g.ov k) : Lw σ' g' t' A j w z nV := by
  have q1 := H.o1
  have q2 := H.o2
  have q3 := H.o3
  have q4 := H.o4
  obtain ⟨D, hD, hO⟩ := H.own
  have hv : (List.range nV).map (fun k => PV.ref (g'.ov k)) = (List.range nV).map (fun k => PV.ref (g.ov k)) := List.map_congr_left fun k hk => by
    rw [hov k (Nat.lt_of_lt_of_le (List.mem_range.mp hk) H.nV)]
  exact ⟨P, hf, by rw [ht _ (by omega)]; exact H.tdk, by rw [ht _ (by omega)]; exact H.tdr, by rw [ht _ (by omega)]; exact H.tow, by rw [ht _ (by omega)]; exact H.tol, q1, q2, q3, Nat.lt_of_lt_of_le q4 U.next, (U.old _ (by omega) H.tdk).trans H.dk,
    (by obtain ⟨ks, h1, h2⟩ := H.dr; exact ⟨ks, h1, (U.old _ (by omega) H.tdr).trans h2⟩), H.j0, ⟨D, (U.old _ (by omega) H.tow).trans hD, hO.mono ht hN U.next (fun a h1 _ h2 => U.old a h1 h2)⟩, by rw [hv, U.old _ (by omega) H.tol]; exact H.ol, Nat.le_trans H.nV hN, hN'⟩
theorem Lw.turn (H : Lw σ g t A j w z nV) (hn : σ.next ≤ σ'.next) (ho : ∀ a, a < σ.next → a ≠ A.dk → a ≠ A.ow → a ≠ A.ol → σ'.objs a = σ.objs a) (hdk : σ'.objs A.dk = .list [.ref A.dr, .int j']) (hj : 0 ≤ j') (how : ∃ D, σ'.objs A.ow = xuc z' D ∧ xfI σ' g A.ol w' D) (hol : σ'.objs A.ol = .list ((List.range nV').map (fun k => .ref (g.ov k)))) (hnV : nV' ≤ g.N) : Lw σ' g t A j' w' z' nV' := by
  have q1 := H.o1
  have q2 := H.o2
  have q3 := H.o3
  have q4 := H.o4
  refine ⟨H.ps.law (fun a h1 h2 => ho a h1 (fun q => ?_) (fun q => ?_) (fun q => ?_)) hn, fun a h => H.fr a (Nat.le_trans hn h), H.tdk, H.tdr, H.tow, H.tol, q1, q2, q3, Nat.lt_of_lt_of_le q4 hn, hdk, ?_, hj, how, hol, hnV, H.nN⟩
  · have := H.tdk; rw [q] at h2; omega
  · have := H.tow; rw [q] at h2; omega
  · have := H.tol; rw [q] at h2; omega
  · obtain ⟨ks, h1, h2⟩ := H.dr
    exact ⟨ks, h1, (ho _ (by omega) (by omega) (by omega) (by omega)).trans h2⟩
theorem Lw.quiet (H : Lw σ g t A j w z nV) (hn : σ.next ≤ σ'.next) (ho : ∀ a, a < σ.next → σ'.objs a = σ.objs a) : Lw σ' g t A j w z nV := by
  have q1 := H.o1
  have q2 := H.o2
  have q3 := H.o3
  have q4 := H.o4
  obtain ⟨D, hD, hO⟩ := H.own
  exact H.turn hn (fun a h _ _ _ => ho a h) ((ho _ (by omega)).trans H.dk) H.j0 ⟨D, (ho _ (by omega)).trans hD, hO.mono (fun _ _ => rfl) (Nat.le_refl _) hn (fun a h1 _ _ => ho a h1)⟩ ((ho _ (by omega)).trans H.ol) H.nV
end
end
section
open PySem
theorem xi7 {f : PV → PV → M PV} {a b : xa6 → M PV} {fr : xa6} {σ σ1 σ2 : St} {x y : PV} {r} (ha : a fr σ = some (x, σ1)) (hb : b fr σ1 = some (y, σ2)) (ho : f x y σ2 = r) : xbG f a b fr σ = r := by
  unfold xbG
  rw [xaj ha, xaj hb]
  exact ho
section
variable {σ σ' : St} {g g' : G} {t t' : T} {A : Adr} {j j' : Int} {w w' : Nat → Option (Int × Int × Bool)} {z z' : Bool} {nV nV' : Nat} {D : List (Int × PV)} {ol : Nat}
theorem xd2 {a b : xa6 → M PV} {fr : xa6} {σ σ0 σ1 : St} {l : Nat} {i : Nat} {vs : List PV} {v : PV} (ha : a fr σ0 = some (.ref l, σ1)) (hb : b fr σ1 = some (.int i, σ)) (hl : σ.objs l = .list vs) (hv : vs[i]? = some v) : xbE a b fr σ0 = some (v, σ) := by
  unfold xbE
  rw [xaj ha, xaj hb]
  simp only [xhf, hl]
  rw [if_pos (Int.natCast_nonneg i), Int.toNat_natCast, hv]
theorem Lw.deck (H : Lw σ g t A j w z nV) : Lw (σ.set A.dk (.list [.ref A.dr, .int (j + 1)])) g t A (j + 1) w z nV := by
  have q1 := H.o1
  have q2 := H.o2
  have q3 := H.o3
  have q4 := H.o4
  have hj := H.j0
  obtain ⟨D, hD, hO⟩ := H.own
  refine H.turn (Nat.le_refl _) (fun a _ h _ _ => by rw [xao, if_neg h]) (if_pos rfl) (by omega) ⟨D, ?_, hO.mono (fun _ _ => rfl) (Nat.le_refl _) (Nat.le_refl _) (fun a _ h _ => by rw [xao, if_neg (by omega)])⟩ ?_ H.nV
  · rw [xao, if_neg (by omega)]; exact hD
  · rw [xao, if_neg (by omega)]; exact H.ol
theorem xlX (H : Lw σ g t A j w z nV) {m : Int} (hm : 0 < m) (hj : j ≤ 900) : ∃ (d : Int) (σ' : St), xaF [.ref A.dk, .int m] σ = some (.int d, σ') ∧ 0 ≤ d ∧ d < m ∧ Lw σ' g t A (j + 1) w z nV := by
  have q1 := H.o1
  have hj0 := H.j0
  have hdk := H.dk
  obtain ⟨ks, hk1, hk2⟩ := H.dr
  have H1 := H.deck
  generalize hσ1 : σ.set A.dk (.list [.ref A.dr, .int (j + 1)]) = σ1 at H1
  have k1 : σ1.objs A.dk = .list [.ref A.dr, .int (j + 1)] := H1.dk
  have k2 : σ1.objs A.dr = .list (ks.map .int) := by rw [← hσ1, xao, if_neg (by omega)]; exact hk2
  have s1 : xdR (xa3 0) (xaK 1) (xbG xda (xbE (xa3 0) (xaK 1)) (xaK 1)) [some (.ref A.dk), some (.int m)] σ = some ((.next, [some (.ref A.dk), some (.int m)]), σ1) := by
    have hi : xbE (xa3 0) (xaK 1) [some (.ref A.dk), some (.int m)] σ = some (.int j, σ) := xd2 (i := 1) rfl rfl hdk rfl
    have hv : xbG xda (xbE (xa3 0) (xaK 1)) (xaK 1) [some (.ref A.dk), some (.int m)] σ = some (.int (j + 1), σ) := by
      unfold xbG
      rw [xaj hi]
      rfl
    unfold xdR
    rw [xaj hv]
    show (match xjw (.ref A.dk) (.int 1) (.int (j + 1)) σ with | some σ4 => _ | none => none) = _
    unfold xjw
    simp only [hdk]
    rw [← hσ1]
    rfl
  have hi1 : xbE (xa3 0) (xaK 1) [some (.ref A.dk), some (.int m)] σ1 = some (.int (j + 1), σ1) := xd2 (i := 1) rfl rfl k1 rfl
  have hi0 : xbE (xa3 0) (xaK 0) [some (.ref A.dk), some (.int m)] σ1 = some (.ref A.dr, σ1) := xd2 (i := 0) rfl rfl k1 rfl
  have hlen : xad xgx (xa1 (xbE (xa3 0) (xaK 0)) xa8) [some (.ref A.dk), some (.int m)] σ1 = some (.int ks.length, σ1) :=
    xb2 (vs := [.ref A.dr]) (σ0 := σ1) (xaR hi0 rfl) (by simp only [xgx, k2]; rw [List.length_map])
  have ht : xaP (xbE (xa3 0) (xaK 1)) (xai cLe (xad xgx (xa1 (xbE (xa3 0) (xaK 0)) xa8))) [some (.ref A.dk), some (.int m)] σ1 = some (decide (j + 1 ≤ (ks.length : Int)), σ1) := by
    unfold xaP xai
    rw [xaj hi1, xaj hlen]
    rfl
  have hmod : ∀ x : Int, xsa (.int x) (.int m) σ1 = some (.int (x.fmod m), σ1) := fun x => if_pos (show m ≠ 0 by omega)
  by_cases hc : j + 1 ≤ (ks.length : Int)
  · obtain ⟨i, hi⟩ : ∃ i : Nat, j = i := ⟨j.toNat, by omega⟩
    have hil : i < ks.length := by omega
    have hx : xbG xsa (xbE (xbE (xa3 0) (xaK 0)) (xbG xhc (xbE (xa3 0) (xaK 1)) (xaK 1))) (xa3 1) [some (.ref A.dk), some (.int m)] σ1 = some (.int ((ks[i]'hil).fmod m), σ1) := by
      have h1 : xbG xhc (xbE (xa3 0) (xaK 1)) (xaK 1) [some (.ref A.dk), some (.int m)] σ1 = some (.int (i : Nat), σ1) := by
        unfold xbG
        rw [xaj hi1]
        show some (PV.int (j + 1 - 1), σ1) = _
        rw [hi, Int.add_sub_cancel]
      have h2 : xbE (xbE (xa3 0) (xaK 0)) (xbG xhc (xbE (xa3 0) (xaK 1)) (xaK 1)) [some (.ref A.dk), some (.int m)] σ1 = some (.int (ks[i]'hil), σ1) := xd2 hi0 h1 k2 (by rw [List.getElem?_map, List.getElem?_eq_getElem hil]; rfl)
      exact xi7 h2 rfl (hmod _)
    refine ⟨(ks[i]'hil).fmod m, σ1, ?_, Int.fmod_nonneg_of_pos _ hm, Int.fmod_lt_of_pos _ hm, H1⟩
    unfold xaF xaT
    show bnd (xdG [some (.ref A.dk), some (.int m)] σ) _ = _
    unfold xdG
    rw [xam s1 (xb8 (v := .int ((ks[i]'hil).fmod m)) (fr1 := [some (.ref A.dk), some (.int m)]) (σ1 := σ1) (by
      unfold sIf
      rw [ht, decide_eq_true hc]
      exact xb8 (by unfold xcA; rw [xaj hx])))]
    rfl
  · have hJ : j + 1 < 4096 := by omega
    have m1 : xbG xl2 (xbE (xa3 0) (xaK 1)) (xbE (xa3 0) (xaK 1)) [some (.ref A.dk), some (.int m)] σ1 = some (.int ((j + 1) * (j + 1)), σ1) := by
      unfold xbG
      rw [xaj hi1, xaj hi1]
      exact if_pos ⟨by omega, by omega⟩
    have hsq : ((j + 1) * (j + 1)).natAbs < 1073741824 := by
      have : (j + 1) * (j + 1) ≤ 901 * 901 := Int.mul_le_mul (by omega) (by omega) (by omega) (by omega)
      have h0 : 0 ≤ (j + 1) * (j + 1) := Int.mul_nonneg (by omega) (by omega)
      omega
    have m2 : xbG xl2 (xbG xl2 (xbE (xa3 0) (xaK 1)) (xbE (xa3 0) (xaK 1))) (xaK 41) [some (.ref A.dk), some (.int m)] σ1 = some (.int ((j + 1) * (j + 1) * 41), σ1) := by
      unfold xbG at m1 ⊢
      rw [xaj m1]
      exact if_pos ⟨by decide, hsq⟩
    have m3 : xbG xl2 (xaK 13) (xbE (xa3 0) (xaK 1)) [some (.ref A.dk), some (.int m)] σ1 = some (.int (13 * (j + 1)), σ1) := by
      unfold xbG
      show bnd (xbE _ _ _ σ1) _ = _
      rw [xaj hi1]
      exact if_pos ⟨by omega, by decide⟩
    have m4 : xbG xl2 (xaK 5) (xad xgx (xa1 (xbE (xa3 0) (xaK 0)) xa8)) [some (.ref A.dk), some (.int m)] σ1 = some (.int (5 * ks.length), σ1) := by
      unfold xbG
      show bnd (xad _ _ _ σ1) _ = _
      rw [xaj hlen]
      exact if_pos ⟨by omega, by decide⟩
    have m5 : xbG xda (xbG xda (xbG xl2 (xbG xl2 (xbE (xa3 0) (xaK 1)) (xbE (xa3 0) (xaK 1))) (xaK 41)) (xbG xl2 (xaK 13) (xbE (xa3 0) (xaK 1)))) (xbG xl2 (xaK 5) (xad xgx (xa1 (xbE (xa3 0) (xaK 0)) xa8))) [some (.ref A.dk), some (.int m)] σ1 = some (.int ((j + 1) * (j + 1) * 41 + 13 * (j + 1) + 5 * ks.length), σ1) := by
      unfold xbG at m2 m3 m4 ⊢
      rw [xaj (xaj m2 |>.trans (xaj m3)), xaj m4]
      rfl
    have m6 : xbG xsa (xbG xtH (xbG xda (xbG xda (xbG xl2 (xbG xl2 (xbE (xa3 0) (xaK 1)) (xbE (xa3 0) (xaK 1))) (xaK 41)) (xbG xl2 (xaK 13) (xbE (xa3 0) (xaK 1)))) (xbG xl2 (xaK 5) (xad xgx (xa1 (xbE (xa3 0) (xaK 0)) xa8)))) (xaK 3)) (xa3 1) [some (.ref A.dk), some (.int m)] σ1 = some (.int ((((j + 1) * (j + 1) * 41 + 13 * (j + 1) + 5 * ks.length).fdiv 3).fmod m), σ1) := by
      generalize hX : (j + 1) * (j + 1) * 41 + 13 * (j + 1) + 5 * (ks.length : Int) = X at m5
      unfold xbG at m5 ⊢
      rw [xaj (xaj m5)]
      exact hmod _
    refine ⟨(((j + 1) * (j + 1) * 41 + 13 * (j + 1) + 5 * ks.length).fdiv 3).fmod m, σ1, ?_, Int.fmod_nonneg_of_pos _ hm, Int.fmod_lt_of_pos _ hm, H1⟩
    · unfold xaF xaT
      show bnd (xdG [some (.ref A.dk), some (.int m)] σ) _ = _
      unfold xdG
      rw [xam s1 (xam (σ1 := σ1) (by unfold sIf; rw [ht, decide_eq_false hc]; rfl) (xb8 (v := .int ((((j + 1) * (j + 1) * 41 + 13 * (j + 1) + 5 * ks.length).fdiv 3).fmod m)) (fr1 := [some (.ref A.dk), some (.int m)]) (σ1 := σ1) (by unfold xcA; rw [xaj m6])))]
      rfl
theorem xc5 (H : Lw σ g t A j w z nV) {m : Int} (hm : 0 < m) (hj : j ≤ 900) (fr : xa6) (i : Nat) (hi : fr[i]? = some (some (.ref A.dk))) {e : xa6 → M PV} (he : ∀ σ, e fr σ = some (.int m, σ)) : ∃ (d : Int) (σ' : St), xad xaF (xa1 (xa3 i) (xa1 e xa8)) fr σ = some (.int d, σ') ∧ 0 ≤ d ∧ d < m ∧ Lw σ' g t A (j + 1) w z nV := by
  obtain ⟨d, σ', h1, h2⟩ := xlX H hm hj
  exact ⟨d, σ', xb2 (vs := [.ref A.dk, .int m]) (σ0 := σ) (xaR (by unfold xa3; rw [hi]) (xaR (he σ) rfl)) h1, h2⟩
theorem xdF {ks : List Nat} {a : xa6 → M PV} {fr : xa6} {σ σ1 : St} {vs : List PV} (ha : a fr σ = some (.tup vs, σ1)) (hl : vs.length = ks.length) : xcy ks a fr σ = some ((.next, xrA fr ks vs), σ1) := by
  unfold xcy
  rw [xaj ha]
  exact if_pos hl
theorem xhZ {m : xa6 → M (List PV)} {fr : xa6} {σ σ1 : St} {vs : List PV} (h : m fr σ = some (vs, σ1)) (hl : vs.length ≤ 1000) : xeJ m fr σ = some (.tup vs, σ1) := by
  unfold xeJ
  rw [xaj h]
  exact if_pos hl
theorem xgv {m : xa6 → M (List PV)} {fr : xa6} {σ σ1 : St} {vs : List PV} (h : m fr σ = some (vs, σ1)) (hl : vs.length ≤ 1000) : xc8 m fr σ = some (.ref σ1.next, σ1.push (.list vs)) := by
  unfold xc8
  rw [xaj h]
  exact if_pos hl
end
end
section
open PySem
theorem xpQ (k : Int) (v : PV) (j : Int) : ∀ D : List (Int × PV), xil (D.map (fun kv => if kv.1 = k then (kv.1, v) else kv)) j = if j = k then (xil D k).map (fun _ => v) else xil D j
  | [] => by unfold xil; simp
  | e :: D => by
    have ih := xpQ k v j D
    unfold xil at ih ⊢
    rw [List.map_cons, List.find?_cons, List.find?_cons]
    by_cases h1 : e.1 = k
    · rw [if_pos h1]
      by_cases h2 : j = k
      · rw [if_pos h2]
        simp [h1, h2]
      · rw [if_neg h2] at ih ⊢
        rw [List.find?_cons]
        have : ¬ e.1 = j := fun q => h2 (by rw [← q, h1])
        simp only [this, decide_false]
        exact ih
    · rw [if_neg h1]
      by_cases h2 : j = k
      · subst h2
        rw [if_pos rfl] at ih ⊢
        simp only [h1, decide_false]
        exact ih
      · rw [if_neg h2] at ih ⊢
        rw [List.find?_cons]
        by_cases h3 : e.1 = j
        · simp [h3]
        · simp only [h3, decide_false]
          exact ih
theorem xqP (D : List (Int × PV)) (k j : Int) (v : PV) : xil (xmy D k v) j = if j = k then some v else xil D j := by
  unfold xmy
  split
  · rename_i h
    rw [xpQ]
    split
    · obtain ⟨e, h1, h2⟩ := List.any_eq_true.mp h
      have hs : (xil D k).isSome = true := by
        unfold xil
        rw [Option.isSome_map, List.find?_isSome]
        exact ⟨e, h1, h2⟩
      obtain ⟨x, hx⟩ := Option.isSome_iff_exists.mp hs
      rw [hx]; rfl
    · rfl
  · rename_i h
    have hno : D.find? (fun kv => decide (kv.1 = k)) = none := by
      rw [List.find?_eq_none]
      intro x hx q
      exact h (List.any_eq_true.mpr ⟨x, hx, q⟩)
    unfold xil
    rw [List.find?_append]
    by_cases h2 : j = k
    · subst h2
      rw [hno, if_pos rfl]; simp
    · rw [if_neg h2]
      have : ¬ k = j := fun q => h2 q.symm
      cases D.find? (fun kv => decide (kv.1 = j)) <;> simp [this]
theorem xpY (D : List (Int × PV)) (k : Int) (v : PV) (h : (D.map (·.1)).Nodup) : ((xmy D k v).map (·.1)).Nodup := by
  unfold xmy
  split
  · rw [List.map_map]
    have : ((fun kv : Int × PV => kv.1) ∘ fun kv => if kv.1 = k then (kv.1, v) else kv) = (fun kv => kv.1) := by
      funext kv
      show (if kv.1 = k then (kv.1, v) else kv).1 = _
      split <;> rfl
    rw [this]; exact h
  · rename_i hn
    rw [List.map_append]
    refine List.nodup_append.mpr ⟨h, by simp, fun a ha c hc => ?_⟩
    have : c = k := by simpa using hc
    rw [this]
    obtain ⟨kv, hkv, rfl⟩ := List.mem_map.mp ha
    intro q
    exact hn (List.any_eq_true.mpr ⟨kv, hkv, by simpa using q⟩)
theorem xrw (D : List (Int × PV)) (k : Int) (v : PV) {kv : Int × PV} (h : kv ∈ xmy D k v) : kv.1 = k ∨ kv ∈ D := by
  unfold xmy at h
  split at h
  · obtain ⟨e, h1, rfl⟩ := List.mem_map.mp h
    by_cases q : e.1 = k
    · rw [if_pos q]; exact .inl q
    · rw [if_neg q]; exact .inr h1
  · rcases List.mem_append.mp h with q | q
    · exact .inr q
    · rw [List.mem_singleton.mp q]; exact .inl rfl
def upd (w : Nat → Option (Int × Int × Bool)) (k : Nat) (x : Option (Int × Int × Bool)) : Nat → Option (Int × Int × Bool) := fun i => if i = k then x else w i
section
variable {σ σ' : St} {g g' : G} {t t' : T} {A : Adr} {j j' : Int} {w w' : Nat → Option (Int × Int × Bool)} {z z' : Bool} {nV nV' : Nat} {D : List (Int × PV)} {ol : Nat}
theorem Lw.app (H : Lw σ g t A j w z nV) (hn : nV < g.N) : Lw (σ.set A.ol (.list ((List.range nV).map (fun k => PV.ref (g.ov k)) ++ [.ref (g.ov nV)]))) g t A j w z (nV + 1) := by
  have q1 := H.o1
  have q2 := H.o2
  have q3 := H.o3
  have q4 := H.o4
  obtain ⟨D, hD, hO⟩ := H.own
  refine H.turn (Nat.le_refl _) (fun a _ _ _ h => by rw [xao, if_neg h]) (by rw [xao, if_neg (by omega)]; exact H.dk) H.j0 ⟨D, by rw [xao, if_neg (by omega)]; exact hD, hO.mono (fun _ _ => rfl) (Nat.le_refl _) (Nat.le_refl _) (fun a _ h _ => by rw [xao, if_neg (by omega)])⟩ ?_ hn
  rw [xao, if_pos rfl, List.range_succ, List.map_append]
  rfl
theorem xfI.del (H : xfI σ g ol w D) (k : Nat) : xfI σ g ol (upd w k none) (xm0 D k) := by
  refine ⟨H.nd.sublist ((List.filter_sublist (p := _)).map _), fun i b e f q => ?_, fun kv hkv => ?_, fun i q => ?_⟩
  · have q' : (if i = k then none else w i) = some (b, e, f) := q
    have hik : i ≠ k := fun x => by rw [if_pos x] at q'; cases q'
    rw [if_neg hik] at q'
    rw [xos _ _ _ (by omega)]
    exact H.get i b e f q'
  · unfold xm0 at hkv
    rw [List.mem_filter] at hkv
    obtain ⟨i, h1, h2⟩ := H.mem kv hkv.1
    refine ⟨i, h1, ?_⟩
    have hik : i ≠ k := fun x => by have h := hkv.2; rw [h1, x] at h; simp at h
    show (if i = k then none else w i).isSome = true
    rw [if_neg hik]; exact h2
  · have q' : (if i = k then none else w i).isSome = true := q
    have hik : i ≠ k := fun x => by rw [if_pos x] at q'; cases q'
    rw [if_neg hik] at q'
    exact H.lt i q'
theorem xfI.set (H : xfI σ g ol w D) {k r : Nat} {b e : Int} {f : Bool} (hk : k < g.N) (h1 : ol < r) (h2 : r < σ.next) (h3 : 10 ≤ (g.tag r).1) (h4 : σ.objs r = .list [.int b, .int e, .bool f]) : xfI σ g ol (upd w k (some (b, e, f))) (xmy D k (.ref r)) := by
  refine ⟨xpY _ _ _ H.nd, fun i b' e' f' q => ?_, fun kv hkv => ?_, fun i q => ?_⟩
  · have q' : (if i = k then some (b, e, f) else w i) = some (b', e', f') := q
    rw [xqP]
    by_cases hik : i = k
    · rw [if_pos hik] at q'
      cases q'
      rw [if_pos (by rw [hik])]
      exact ⟨r, rfl, h1, h2, h3, h4⟩
    · rw [if_neg hik] at q'
      rw [if_neg (by omega)]
      exact H.get i b' e' f' q'
  · rcases xrw _ _ _ hkv with q | q
    · exact ⟨k, q, by show (if k = k then _ else w k).isSome = true; rw [if_pos rfl]; rfl⟩
    · obtain ⟨i, h1, h2⟩ := H.mem kv q
      refine ⟨i, h1, ?_⟩
      show (if i = k then _ else w i).isSome = true
      split
      · rfl
      · exact h2
  · have q' : (if i = k then some (b, e, f) else w i).isSome = true := q
    by_cases hik : i = k
    · rw [hik]; exact hk
    · rw [if_neg hik] at q'; exact H.lt i q'
theorem Lw.dlen (H : Lw σ g t A j w z nV) (h : xfI σ g A.ol w D) : D.length ≤ 6 := Nat.le_trans h.len H.nN
theorem Lw.row (H : Lw σ g t A j w false nV) {k : Nat} (hk : k < g.N) {m : xa6 → M (List PV)} {ie : xa6 → M PV} {fr : xa6} {σ0 : St} {i : Nat} {b e : Int} {f : Bool} (hm : m fr σ0 = some ([.int b, .int e, .bool f], σ)) (hi : fr[i]? = some (some (.ref A.ow))) (hie : ∀ σ, ie fr σ = some (.int k, σ)) :
    ∃ σ', xdR (xa3 i) ie (xc8 m) fr σ0 = some ((.next, fr), σ') ∧ Lw σ' g t A j (upd w k (some (b, e, f))) false nV := by
  have q1 := H.o1
  have q2 := H.o2
  have q3 := H.o3
  have q4 := H.o4
  obtain ⟨D, hD, hO⟩ := H.own
  have hl := H.dlen hO
  generalize hσ1 : σ.push (.list [.int b, .int e, .bool f]) = σ1
  have x1 : σ1.next = σ.next + 1 := by rw [← hσ1]; rfl
  have p1 : ∀ a, a < σ.next → σ1.objs a = σ.objs a := fun a ha => by rw [← hσ1]; exact if_neg (by omega)
  have r1 : σ1.objs σ.next = .list [.int b, .int e, .bool f] := by rw [← hσ1]; exact if_pos rfl
  have hO1 : xfI σ1 g A.ol w D := hO.mono (fun _ _ => rfl) (Nat.le_refl _) (by omega) (fun a h _ _ => p1 a h)
  have hO2 := hO1.set (r := σ.next) (b := b) (e := e) (f := f) hk q4 (by omega) (H.fr _ (Nat.le_refl _)) r1
  have hD1 : σ1.objs A.ow = .dict D := (p1 _ (by omega)).trans hD
  refine ⟨σ1.set A.ow (.dict (xmy D k (.ref σ.next))), ?_, H.turn (by show σ.next ≤ σ1.next; omega) (fun a h1 _ h2 _ => by rw [xao, if_neg h2]; exact p1 a h1) (by rw [xao, if_neg (by omega), p1 _ (by omega)]; exact H.dk) H.j0 ⟨_, if_pos rfl, hO2.mono (fun _ _ => rfl) (Nat.le_refl _) (Nat.le_refl _) (fun a _ h _ => by rw [xao, if_neg (by omega)])⟩ (by rw [xao, if_neg (by omega), p1 _ (by omega)]; exact H.ol) H.nV⟩
  unfold xdR
  rw [xaj (xgv hm (by show 3 ≤ 1000; decide)), hσ1]
  have hv : xa3 i fr σ1 = some (.ref A.ow, σ1) := by unfold xa3; rw [hi]
  rw [xaj hv, xaj (hie σ1)]
  simp only [xjw, hD1]
  rw [if_pos (by omega)]
theorem Lw.del (H : Lw σ g t A j w false nV) {k : Nat} (hk : (w k).isSome = true) {ie : xa6 → M PV} {fr : xa6} {i : Nat} (hi : fr[i]? = some (some (.ref A.ow))) (hie : ie fr σ = some (.int k, σ)) :
    ∃ σ', xqZ (xa3 i) ie fr σ = some ((.next, fr), σ') ∧ Lw σ' g t A j (upd w k none) false nV := by
  have q1 := H.o1
  have q2 := H.o2
  have q3 := H.o3
  have q4 := H.o4
  obtain ⟨D, hD, hO⟩ := H.own
  have hD' : σ.objs A.ow = .dict D := hD
  obtain ⟨⟨b, e, f⟩, hw⟩ := Option.isSome_iff_exists.mp hk
  obtain ⟨r, hr, _⟩ := hO.get k b e f hw
  refine ⟨σ.set A.ow (.dict (xm0 D k)), ?_, H.turn (Nat.le_refl _) (fun a h1 _ h2 _ => by rw [xao, if_neg h2]) (by rw [xao, if_neg (by omega)]; exact H.dk) H.j0 ⟨_, if_pos rfl, (hO.del k).mono (fun _ _ => rfl) (Nat.le_refl _) (Nat.le_refl _) (fun a _ h _ => by rw [xao, if_neg (by omega)])⟩ (by rw [xao, if_neg (by omega)]; exact H.ol) H.nV⟩
  unfold xqZ
  have hv : xa3 i fr σ = some (.ref A.ow, σ) := by unfold xa3; rw [hi]
  rw [xaj hv, xaj hie]
  simp only [xle, hD', hr]
def xcb (g : G) : Nat → Option (Int × Int × Bool) := fun k => if k < g.N ∧ g.lv k = true then some (g.B k, g.E k, g.fl k) else none
theorem xqw (H : Lw σ g t A j w z nV) {b e : Int} (P : PS σ' ((g.born σ.next).lay g.N b e) t') (U : Unt g σ σ') (hN : g.N + 1 ≤ 6) : Lw σ' ((g.born σ.next).lay g.N b e) t' A j w z nV := by
  have hp : ((g.born σ.next).lay g.N b e).pl g.N < σ'.next := P.lpl g.N (by show g.N < g.N + 1; omega)
  have hp' : ((g.born σ.next).lay g.N b e).pl g.N = σ.next + 2 := if_pos rfl
  rw [hp'] at hp
  refine H.prog P U (fun a ha => ?_) (fun a ha => ?_) (by show g.N ≤ g.N + 1; omega) hN (fun k hk => if_neg (by omega))
  · show (if a = σ.next then _ else if a = σ.next + 1 then _ else if a = σ.next + 2 then _ else g.tag a) = _
    rw [if_neg (by omega), if_neg (by omega), if_neg (by omega)]
  · show 10 ≤ (if a = σ.next then _ else if a = σ.next + 1 then _ else if a = σ.next + 2 then _ else g.tag a).1
    rw [if_neg (by omega), if_neg (by omega), if_neg (by omega)]
    exact H.fr a (by omega)
theorem xqn (H : Lw σ g t A j w z nV) {k n : Nat} {c : Bool} (hk : k < g.N) (P : PS σ' ((g.mark k n).gone k c) t') (U : Unt g σ σ') (hn : σ.next ≤ n) : Lw σ' ((g.mark k n).gone k c) t' A j w z nV := by
  have hp : ((g.mark k n).gone k c).pl k < σ'.next := P.lpl k hk
  have hp' : ((g.mark k n).gone k c).pl k = n := if_pos rfl
  rw [hp'] at hp
  refine H.prog P U (fun a ha => if_neg (by omega)) (fun a ha => ?_) (Nat.le_refl _) H.nN (fun k hk => rfl)
  show 10 ≤ (if a = n then _ else g.tag a).1
  rw [if_neg (by omega)]
  exact H.fr a (by have := U.next; omega)
end
end
section
open PySem
section
variable {σ σ' : St} {g g' : G} {t t' : T} {A : Adr} {j j' : Int} {w w' : Nat → Option (Int × Int × Bool)} {z z' : Bool} {nV nV' : Nat} {D : List (Int × PV)} {ol : Nat}
theorem xfs {a : xa6 → M PV} {k : PV → xa6 → M Bool} {fr : xa6} {σ σ1 σ2 : St} {x : PV} {b : Bool} (ha : a fr σ = some (x, σ1)) (hk : k x fr σ1 = some (b, σ2)) : xdY a k fr σ = some (.bool b, σ2) := by
  unfold xdY
  rw [xaj ha, xaj hk]
theorem xfy {a : xa6 → M PV} {k : PV → xa6 → M Bool} {fr : xa6} {σ σ1 : St} {x : PV} {r} (ha : a fr σ = some (x, σ1)) (hk : k x fr σ1 = r) : xaP a k fr σ = r := by
  unfold xaP
  rw [xaj ha]; exact hk
theorem xdw {c : xa6 → M Bool} {a b : xa6 → M (FR × xa6)} {fr : xa6} {σ σ1 : St} {x : Bool} {r} (hc : c fr σ = some (x, σ1)) (h : (if x then a fr σ1 else b fr σ1) = r) : sIf c a b fr σ = r := by
  unfold sIf
  rw [xaj hc]; exact h
theorem xdo {fr : xa6} {σ : St} : xa8 fr σ = some ([], σ) := rfl
theorem xp3 (H : Lw σ g t A j (xcb g) false g.N) (hN : g.N + 1 ≤ 6) (hj : j ≤ 800) :
    ∃ (p : PV) (σ' : St) (g' : G) (t' : T), xcW [.ref A.dk, .ref g.hm, .ref A.ow, .ref A.ol] σ = some (p, σ') ∧ Lw σ' g' t' A (j + 4) (xcb g') false g'.N ∧ g'.N = g.N + 1 ∧ g'.hm = g.hm := by
  have hj4 : j + 1 + 1 + 1 + 1 = j + 4 := by omega
  obtain ⟨d1, σ1, c1, a1, b1, H1⟩ := xc5 H (m := 14) (by decide) (by omega) [some (.ref A.dk), some (.ref g.hm), some (.ref A.ow), some (.ref A.ol), none, none, none, none] 0 rfl (e := xaK 14) (fun _ => rfl)
  obtain ⟨d2, σ2, c2, a2, b2, H2⟩ := xc5 H1 (m := 4) (by decide) (by omega) [some (.ref A.dk), some (.ref g.hm), some (.ref A.ow), some (.ref A.ol), none, none, none, none] 0 rfl (e := xaK 4) (fun _ => rfl)
  obtain ⟨d3, σ3, c3, a3, b3, H3⟩ := xc5 H2 (m := 3) (by decide) (by omega) [some (.ref A.dk), some (.ref g.hm), some (.ref A.ow), some (.ref A.ol), none, none, none, none] 0 rfl (e := xaK 3) (fun _ => rfl)
  have hlen : xad xgx (xa1 (xa3 3) xa8) [some (.ref A.dk), some (.ref g.hm), some (.ref A.ow), some (.ref A.ol), none, none, none, none] σ = some (.int g.N, σ) :=
    xb2 (vs := [.ref A.ol]) (σ0 := σ) rfl (by simp only [xgx, H.ol]; rw [List.length_map, List.length_range])
  have s1 := xdF (ks := [4, 5, 6, 7]) (xhZ (xaR hlen (xaR c1 (xaR c2 (xaR c3 xdo)))) (by show 4 ≤ 1000; decide)) rfl
  obtain ⟨d4, σ4, c4, a4, b4, H4⟩ := xc5 H3 (m := 2) (by decide) (by omega) [some (.ref A.dk), some (.ref g.hm), some (.ref A.ow), some (.ref A.ol), some (.int g.N), some (.int d1), some (.int d2), some (.int d3)] 0 rfl (e := xaK 2) (fun _ => rfl)
  generalize he : (if d1 + d2 < 16 then d1 + d2 else 16) = e
  have hbe : d1 ≤ e := by rw [← he]; split <;> omega
  have he0 : d1 = e ↔ d2 = 0 := by rw [← he]; split <;> omega
  have hmin : ∀ σ, xad xpk (xa1 (xaK 16) (xa1 (xbG xda (xa3 5) (xa3 6)) xa8)) [some (.ref A.dk), some (.ref g.hm), some (.ref A.ow), some (.ref A.ol), some (.int g.N), some (.int d1), some (.int d2), some (.int d3)] σ = some (.int e, σ) := fun σ => by
    rw [← he]; rfl
  obtain ⟨σ5, t5, m1, m2, m3⟩ := xq9 H4.ps hN (b := d1) (e := e) (fa := .bool (decide (d4 = 1))) (ra := .bool (decide (d3 = 2))) hbe
  have H5 := xqw H4 m2 m3 hN
  generalize hg5 : (g.born σ4.next).lay g.N d1 e = g5 at m2 H5
  have N5 : g5.N = g.N + 1 := by rw [← hg5]; rfl
  have hm5 : g5.hm = g.hm := by rw [← hg5]; rfl
  have ov5 : g5.ov g.N = σ4.next := by rw [← hg5]; exact if_pos rfl
  have lv5 : g5.lv g.N = true := by rw [← hg5]; exact if_pos rfl
  have fl5 : g5.fl g.N = false := by rw [← hg5]; exact if_pos rfl
  have B5 : g5.B g.N = d1 := by rw [← hg5]; exact if_pos rfl
  have E5 : g5.E g.N = e := by rw [← hg5]; exact if_pos rfl
  have oth5 : ∀ k, k < g.N → g5.lv k = g.lv k ∧ g5.fl k = g.fl k ∧ g5.B k = g.B k ∧ g5.E k = g.E k := fun k hk => by
    have hne : k ≠ g.N := by omega
    have e1 : (g.born σ4.next).lv k = g.lv k := if_neg hne
    have e2 : (g.born σ4.next).fl k = g.fl k := if_neg hne
    rw [← hg5]
    refine ⟨?_, e2, if_neg hne, if_neg hne⟩
    exact (if_neg hne).trans e1
  have H6 := H5.app (by omega)
  rw [ov5] at H6
  have s2 : xb1 (xcs isL xco (xa3 3) (xad xcp (xa1 (xa3 1) (xa1 (xa3 4) (xa1 (xa3 5) (xa1 (xad xpk (xa1 (xaK 16) (xa1 (xbG xda (xa3 5) (xa3 6)) xa8))) (xa1 (xdY (xad xaF (xa1 (xa3 0) (xa1 (xaK 2) xa8))) (xai cEq (xaK 1))) (xa1 (xdY (xa3 7) (xai cEq (xaK 2))) xa8)))))))) [some (.ref A.dk), some (.ref g.hm), some (.ref A.ow), some (.ref A.ol), some (.int g.N), some (.int d1), some (.int d2), some (.int d3)] σ3
      = some ((.next, [some (.ref A.dk), some (.ref g.hm), some (.ref A.ow), some (.ref A.ol), some (.int g.N), some (.int d1), some (.int d2), some (.int d3)]), σ5.set A.ol (.list ((List.range g.N).map (fun k => PV.ref (g5.ov k)) ++ [.ref σ4.next]))) := by
    have hcall : xad xcp (xa1 (xa3 1) (xa1 (xa3 4) (xa1 (xa3 5) (xa1 (xad xpk (xa1 (xaK 16) (xa1 (xbG xda (xa3 5) (xa3 6)) xa8))) (xa1 (xdY (xad xaF (xa1 (xa3 0) (xa1 (xaK 2) xa8))) (xai cEq (xaK 1))) (xa1 (xdY (xa3 7) (xai cEq (xaK 2))) xa8)))))) [some (.ref A.dk), some (.ref g.hm), some (.ref A.ow), some (.ref A.ol), some (.int g.N), some (.int d1), some (.int d2), some (.int d3)] σ3 = some (.ref σ4.next, σ5) :=
      xb2 (vs := [.ref g.hm, .int g.N, .int d1, .int e, .bool (decide (d4 = 1)), .bool (decide (d3 = 2))]) (σ0 := σ4) (xaR rfl (xaR rfl (xaR rfl (xaR (hmin _) (xaR (xfs c4 rfl) (xaR rfl rfl)))))) m1
    unfold xb1
    rw [xaj (a := .none) (σ := σ5.set A.ol (.list ((List.range g.N).map (fun k => PV.ref (g5.ov k)) ++ [.ref σ4.next])))]
    unfold xcs
    show bnd (some (PV.ref A.ol, σ3)) _ = _
    show (if isL (.ref A.ol) σ3 then _ else _) = _
    rw [if_pos (by unfold isL; simp only [H3.ol]), xaj hcall]
    unfold xco
    simp only [H5.ol]
    rw [if_pos (by rw [List.length_map, List.length_range]; omega)]
  generalize hσ6 : σ5.set A.ol (.list ((List.range g.N).map (fun k => PV.ref (g5.ov k)) ++ [.ref σ4.next])) = σ6 at H6 s2
  obtain ⟨σ8, s3, H8⟩ := H6.row (k := g.N) (by omega) (m := xa1 (xa3 5) (xa1 (xad xpk (xa1 (xaK 16) (xa1 (xbG xda (xa3 5) (xa3 6)) xa8))) (xa1 (xdY (xa3 7) (xai cEq (xaK 1))) xa8))) (ie := xa3 4) (fr := [some (.ref A.dk), some (.ref g.hm), some (.ref A.ow), some (.ref A.ol), some (.int g.N), some (.int d1), some (.int d2), some (.int d3)]) (σ0 := σ6) (i := 2) (b := d1) (e := e) (f := decide (d3 = 1)) (xaR rfl (xaR (hmin _) (xaR (xfs rfl rfl) rfl))) rfl (fun _ => rfl)
  have hrun : ∀ {s4' σ9}, (sIf (xaP (xa3 7) (xai cEq (xaK 1))) (xa5 (xb1 (xad xci (xa1 (xa9 xc9 (xa3 1)) (xa1 (xbE (xa3 3) (xa3 4)) (xa1 (xaK 103) (xa1 (xch true) xa8))))))
    (xa5 (sIf (xaP (xa3 6) (xai cEq (xaK 0))) (xa5 (xqZ (xa3 2) (xa3 4)) xaC) xaC) xaC)) xaC) [some (.ref A.dk), some (.ref g.hm), some (.ref A.ow), some (.ref A.ol), some (.int g.N), some (.int d1), some (.int d2), some (.int d3)] σ8 = some ((.next, s4'), σ9) → xcW [.ref A.dk, .ref g.hm, .ref A.ow, .ref A.ol] σ = some (.none, σ9) := by
    intro s4' σ9 h
    unfold xcW xaT
    show bnd (xeQ [some (.ref A.dk), some (.ref g.hm), some (.ref A.ow), some (.ref A.ol), none, none, none, none] σ) _ = _
    unfold xeQ
    rw [xav s1 (xam s2 (xam s3 (xav h rfl)))]
    rfl
  by_cases hk : d3 = 1
  · -- marked
    obtain ⟨lp, df, hru⟩ := H8.ps.rules
    have hh8 := H8.ps.home
    rw [hm5] at hh8
    obtain ⟨p9, σ9, t9, n9, e1, e2, e3, e4⟩ := xqi H8.ps (k := g.N) (by omega) lv5 fl5
    have H9 := xqn H8 (by omega) e2 e3 e4
    generalize hg9 : (g5.mark g.N n9).gone g.N (decide (g5.B g.N = g5.E g.N)) = g9 at e2 H9
    have N9 : g9.N = g.N + 1 := by rw [← hg9]; exact N5
    have hm9 : g9.hm = g.hm := by rw [← hg9]; exact hm5
    have lv9 : g9.lv g.N = !(decide (d1 = e)) := by
      rw [← hg9]
      show (if g.N = g.N then g5.lv g.N && !(decide (g5.B g.N = g5.E g.N)) else g5.lv g.N) = _
      rw [if_pos rfl, lv5, B5, E5]; rfl
    have fl9 : g9.fl g.N = true := by rw [← hg9]; exact if_pos rfl
    have B9 : g9.B g.N = d1 := by rw [← hg9]; exact B5
    have E9 : g9.E g.N = e := by rw [← hg9]; exact E5
    have oth9 : ∀ k, k < g.N → g9.lv k = g.lv k ∧ g9.fl k = g.fl k ∧ g9.B k = g.B k ∧ g9.E k = g.E k := fun k hk' => by
      have hne : k ≠ g.N := by omega
      obtain ⟨z1, z2, z3, z4⟩ := oth5 k hk'
      rw [← hg9]
      refine ⟨?_, ?_, z3, z4⟩
      · exact (if_neg hne).trans z1
      · exact (if_neg hne).trans z2
    have t1 : xaP (xa3 7) (xai cEq (xaK 1)) [some (.ref A.dk), some (.ref g.hm), some (.ref A.ow), some (.ref A.ol), some (.int g.N), some (.int d1), some (.int d2), some (.int d3)] σ8 = some (true, σ8) := by
      show some (decide (d3 = 1), σ8) = _
      rw [decide_eq_true hk]
    have hput : xb1 (xad xci (xa1 (xa9 xc9 (xa3 1)) (xa1 (xbE (xa3 3) (xa3 4)) (xa1 (xaK 103) (xa1 (xch true) xa8))))) [some (.ref A.dk), some (.ref g.hm), some (.ref A.ow), some (.ref A.ol), some (.int g.N), some (.int d1), some (.int d2), some (.int d3)] σ8 = some ((.next, [some (.ref A.dk), some (.ref g.hm), some (.ref A.ow), some (.ref A.ol), some (.int g.N), some (.int d1), some (.int d2), some (.int d3)]), σ9) :=
      xbx (vs := [.ref g5.ru, .ref (g5.ov g.N), .int 103, .bool true]) (σ0 := σ8) (xaR (xd4 (i := g.hm) rfl hh8 rfl rfl) (xaR (xd2 (i := g.N) rfl rfl H8.ol (by rw [List.getElem?_map, List.getElem?_range (by omega)]; rfl)) rfl)) e1
    have t2 : xaP (xa3 6) (xai cEq (xaK 0)) [some (.ref A.dk), some (.ref g.hm), some (.ref A.ow), some (.ref A.ol), some (.int g.N), some (.int d1), some (.int d2), some (.int d3)] σ9 = some (decide (d2 = 0), σ9) := rfl
    by_cases hs : d2 = 0
    · have hw : (upd (xcb g) g.N (some (d1, e, decide (d3 = 1))) g.N).isSome = true := by
        show (if g.N = g.N then _ else _ : Option _).isSome = true
        rw [if_pos rfl]; rfl
      obtain ⟨σ10, s5, H10⟩ := H9.del (k := g.N) hw (ie := xa3 4) (fr := [some (.ref A.dk), some (.ref g.hm), some (.ref A.ow), some (.ref A.ol), some (.int g.N), some (.int d1), some (.int d2), some (.int d3)]) (i := 2) rfl rfl
      refine ⟨.none, σ10, g9, t9, hrun (xdw t1 (xam hput (xam (xdw t2 (by rw [decide_eq_true hs]; exact xam s5 rfl)) rfl))), ?_, N9, hm9⟩
      have hwe : upd (upd (xcb g) g.N (some (d1, e, decide (d3 = 1)))) g.N none = xcb g9 := by
        funext k
        show (if k = g.N then none else if k = g.N then _ else xcb g k) = xcb g9 k
        unfold xcb
        by_cases q : k = g.N
        · rw [if_pos q, q, lv9, decide_eq_true (he0.mpr hs)]; simp
        · rw [if_neg q, if_neg q, N9]
          by_cases q2 : k < g.N
          · obtain ⟨z1, z2, z3, z4⟩ := oth9 k q2
            rw [z1, z2, z3, z4]
            simp only [q2, show k < g.N + 1 by omega]
          · simp only [q2, show ¬ k < g.N + 1 by omega, false_and, if_false]
      rw [← hwe, N9]
      rw [← hj4]; exact H10
    · refine ⟨.none, σ9, g9, t9, hrun (xdw t1 (xam hput (xam (xdw t2 (by rw [decide_eq_false hs]; rfl)) rfl))), ?_, N9, hm9⟩
      have hwe : upd (xcb g) g.N (some (d1, e, decide (d3 = 1))) = xcb g9 := by
        funext k
        show (if k = g.N then _ else xcb g k) = xcb g9 k
        unfold xcb
        by_cases q : k = g.N
        · rw [if_pos q, q, lv9, decide_eq_false (fun x => hs (he0.mp x)), N9, B9, E9, fl9, decide_eq_true hk]; simp
        · rw [if_neg q, N9]
          by_cases q2 : k < g.N
          · obtain ⟨z1, z2, z3, z4⟩ := oth9 k q2
            rw [z1, z2, z3, z4]
            simp only [q2, show k < g.N + 1 by omega]
          · simp only [q2, show ¬ k < g.N + 1 by omega, false_and, if_false]
      rw [← hwe, N9]
      rw [← hj4]; exact H9
  · have t1 : xaP (xa3 7) (xai cEq (xaK 1)) [some (.ref A.dk), some (.ref g.hm), some (.ref A.ow), some (.ref A.ol), some (.int g.N), some (.int d1), some (.int d2), some (.int d3)] σ8 = some (false, σ8) := by
      show some (decide (d3 = 1), σ8) = _
      rw [decide_eq_false hk]
    refine ⟨.none, σ8, g5, t5, hrun (xdw t1 rfl), ?_, N5, hm5⟩
    have hwe : upd (xcb g) g.N (some (d1, e, decide (d3 = 1))) = xcb g5 := by
      funext k
      show (if k = g.N then _ else xcb g k) = xcb g5 k
      unfold xcb
      by_cases q : k = g.N
      · rw [if_pos q, q, lv5, N5, B5, E5, fl5, decide_eq_false hk]; simp
      · rw [if_neg q, N5]
        by_cases q2 : k < g.N
        · obtain ⟨z1, z2, z3, z4⟩ := oth5 k q2
          rw [z1, z2, z3, z4]
          simp only [q2, show k < g.N + 1 by omega]
        · simp only [q2, show ¬ k < g.N + 1 by omega, false_and, if_false]
    rw [← hwe, N5]
    rw [← hj4]; exact H8
end
end
section
open PySem
def xjG (a m : Int) (x : Int × Int × Bool) : Option (Int × Int × Bool) := if gap a m x.1 = gap a m x.2.1 ∧ gap a m x.2.1 = a ∧ x.2.2 = true then none else some (gap a m x.1, gap a m x.2.1, x.2.2)
def xq3 (a m : Int) : List Nat → (Nat → Option (Int × Int × Bool)) → Nat → Option (Int × Int × Bool)
  | [], w => w
  | k :: L, w => xq3 a m L (upd w k ((w k).bind (xjG a m)))
theorem xok (a m : Int) : ∀ (L : List Nat) (w : Nat → Option (Int × Int × Bool)), L.Nodup → ∀ i, xq3 a m L w i = if i ∈ L then (w i).bind (xjG a m) else w i
  | [], w, _, i => by rw [if_neg (List.not_mem_nil)]; rfl
  | k :: L, w, hn, i => by
    rw [List.nodup_cons] at hn
    show xq3 a m L (upd w k ((w k).bind (xjG a m))) i = _
    rw [xok a m L _ hn.2]
    by_cases h : i = k
    · subst h
      rw [if_neg hn.1, if_pos (List.mem_cons_self ..)]
      exact if_pos rfl
    · have e : upd w k ((w k).bind (xjG a m)) i = w i := if_neg h
      rw [e]
      simp only [List.mem_cons, h, false_or]
noncomputable def xmp : xa6 → M (FR × xa6) := (xa5 (xcy [6, 7, 8] (xbE (xa3 2) (xa3 5)))
    (xa5 (xcy [6, 7] (xdg [false, false, false, true, true, false, false, false, false] (xeJ (xa1 (xa3 6) (xa1 (xa3 7) xa8))) xbV (eIf (xaP (xa3 0) (xai cLe (xa3 4))) (xa3 0) (xad xhJ (xa1 (xa3 4) (xa1 (xbG xhc (xa3 0) (xa3 5)) xa8))))))
    (xa5 (xdR (xa3 2) (xa3 5) (xc8 (xa1 (xa3 6) (xa1 (xa3 7) (xa1 (xa3 8) xa8)))))
    (xa5 (sIf (xcK (xaP (xa3 6) (xbQ cEq (xa3 7) (xai cEq (xa3 3)))) (xcK (xbe (xa3 8)) xbV)) (xa5 (xqZ (xa3 2) (xa3 5))
    xaC) xaC)
    xaC))))
theorem xiY {ks : List Nat} {a : xa6 → M PV} {fr : xa6} {σ σ1 : St} {r : Nat} {vs : List PV} (ha : a fr σ = some (.ref r, σ1)) (hr : σ1.objs r = .list vs) (hl : vs.length = ks.length) : xcy ks a fr σ = some ((.next, xrA fr ks vs), σ1) := by
  unfold xcy
  rw [xaj ha]
  simp only [xiK, xc7, hr]
  exact if_pos hl
section
variable {σ σ' : St} {g g' : G} {t t' : T} {A : Adr} {j j' : Int} {w w' : Nat → Option (Int × Int × Bool)} {z z' : Bool} {nV nV' : Nat} {D : List (Int × PV)} {ol : Nat}
theorem Lw.read (H : Lw σ g t A j w z nV) {k : Nat} {b e : Int} {f : Bool} (hw : w k = some (b, e, f)) {a ie : xa6 → M PV} {fr : xa6} {σ0 σ1 : St} (ha : a fr σ0 = some (.ref A.ow, σ1)) (hie : ie fr σ1 = some (.int k, σ)) :
    ∃ r, xbE a ie fr σ0 = some (.ref r, σ) ∧ A.ol < r ∧ r < σ.next ∧ 10 ≤ (g.tag r).1 ∧ σ.objs r = .list [.int b, .int e, .bool f] := by
  obtain ⟨D, hD, hO⟩ := H.own
  obtain ⟨r, h1, h2, h3, h4, h5⟩ := hO.get k b e f hw
  refine ⟨r, ?_, h2, h3, h4, h5⟩
  unfold xbE
  rw [xaj ha, xaj hie]
  cases z
  · have hD' : σ.objs A.ow = .dict D := hD
    simp only [xhf, hD', h1]
  · have hD' : σ.objs A.ow = .fdict D := hD
    simp only [xhf, hD', h1]
theorem xrO (H : Lw σ g t A j w false nV) {k : Nat} (hk : k < g.N) (hw : (w k).isSome = true) {hm : Nat} {a m : Int} (y6 y7 y8 : Option PV) :
    ∃ σ' y6' y7' y8', xmp [some (.ref A.dk), some (.ref hm), some (.ref A.ow), some (.int a), some (.int m), some (.int k), y6, y7, y8] σ = some ((.next, [some (.ref A.dk), some (.ref hm), some (.ref A.ow), some (.int a), some (.int m), some (.int k), y6', y7', y8']), σ') ∧ Lw σ' g t A j (upd w k ((w k).bind (xjG a m))) false nV := by
  obtain ⟨⟨b, e, f⟩, hw⟩ := Option.isSome_iff_exists.mp hw
  obtain ⟨r, r1, r2, r3, r4, r5⟩ := H.read hw (a := xa3 2) (ie := xa3 5) (fr := [some (.ref A.dk), some (.ref hm), some (.ref A.ow), some (.int a), some (.int m), some (.int k), y6, y7, y8]) (σ0 := σ) (σ1 := σ) rfl rfl
  have s1 := xiY (ks := [6, 7, 8]) r1 r5 rfl
  have hcomp := xds (α := Int) (r := .int) (keep := [false, false, false, true, true, false, false, false, false]) (a := xeJ (xa1 (xa3 6) (xa1 (xa3 7) xa8))) (t := xbV) (e := eIf (xaP (xa3 0) (xai cLe (xa3 4))) (xa3 0) (xad xhJ (xa1 (xa3 4) (xa1 (xbG xhc (xa3 0) (xa3 5)) xa8)))) (fr := [some (.ref A.dk), some (.ref hm), some (.ref A.ow), some (.int a), some (.int m), some (.int k), some (.int b), some (.int e), some (.bool f)]) (σ := σ) (σ0 := σ) (σ1 := σ) (x := .tup [.int b, .int e]) (I := [b, e]) (b := fun _ => true) (f := fun x => .int (gap a m x)) rfl rfl (by show 2 ≤ 1000; decide) (fun _ _ => rfl) (fun x _ _ => by
    unfold eIf
    show bnd (some (decide (x ≤ a), σ)) _ = _
    show (if decide (x ≤ a) = true then _ else _) = _
    by_cases q : x ≤ a
    · rw [if_pos (decide_eq_true q), xmH q]; rfl
    · rw [if_neg (by simpa using q)]
      unfold gap mx
      rw [if_pos (by omega)]
      rfl)
  generalize hσ1 : σ.push (.list [.int (gap a m b), .int (gap a m e)]) = σ1
  have hcomp' : xdg [false, false, false, true, true, false, false, false, false] (xeJ (xa1 (xa3 6) (xa1 (xa3 7) xa8))) xbV (eIf (xaP (xa3 0) (xai cLe (xa3 4))) (xa3 0) (xad xhJ (xa1 (xa3 4) (xa1 (xbG xhc (xa3 0) (xa3 5)) xa8)))) [some (.ref A.dk), some (.ref hm), some (.ref A.ow), some (.int a), some (.int m), some (.int k), some (.int b), some (.int e), some (.bool f)] σ = some (.ref σ.next, σ1) := by
    rw [← hσ1]; exact hcomp
  have H1 : Lw σ1 g t A j w false nV := H.quiet (by rw [← hσ1]; exact Nat.le_succ _) (fun x hx => by rw [← hσ1]; exact if_neg (by omega))
  have s2 := xiY (ks := [6, 7]) hcomp' (by rw [← hσ1]; exact if_pos rfl) rfl
  obtain ⟨σ2, s3, H2⟩ := H1.row (k := k) hk (m := xa1 (xa3 6) (xa1 (xa3 7) (xa1 (xa3 8) xa8))) (ie := xa3 5) (fr := [some (.ref A.dk), some (.ref hm), some (.ref A.ow), some (.int a), some (.int m), some (.int k), some (.int (gap a m b)), some (.int (gap a m e)), some (.bool f)]) (σ0 := σ1) (i := 2) (b := gap a m b) (e := gap a m e) (f := f) rfl rfl (fun _ => rfl)
  have ht : (xcK (xaP (xa3 6) (xbQ cEq (xa3 7) (xai cEq (xa3 3)))) (xcK (xbe (xa3 8)) xbV)) [some (.ref A.dk), some (.ref hm), some (.ref A.ow), some (.int a), some (.int m), some (.int k), some (.int (gap a m b)), some (.int (gap a m e)), some (.bool f)] σ2 = some (decide (gap a m b = gap a m e ∧ gap a m e = a ∧ f = true), σ2) := by
    unfold xcK xaP xbQ xai
    show bnd (match some (decide (gap a m b = gap a m e)) with | some true => some (decide (gap a m e = a), σ2) | some false => some (false, σ2) | none => none) _ = _
    by_cases q1 : gap a m b = gap a m e
    · by_cases q2 : gap a m e = a
      · rw [decide_eq_true q1, decide_eq_true q2]
        cases f
        · rw [decide_eq_false (fun q => by cases q.2.2)]; rfl
        · rw [decide_eq_true ⟨q1, q2, rfl⟩]; rfl
      · rw [decide_eq_true q1, decide_eq_false q2, decide_eq_false (fun q => q2 q.2.1)]; rfl
    · rw [decide_eq_false q1, decide_eq_false (p := gap a m b = gap a m e ∧ gap a m e = a ∧ f = true) (fun q => q1 q.1)]; rfl
  have hwk : (w k).bind (xjG a m) = xjG a m (b, e, f) := by rw [hw]; rfl
  rw [hwk]
  by_cases hc : gap a m b = gap a m e ∧ gap a m e = a ∧ f = true
  · have hg : xjG a m (b, e, f) = none := if_pos hc
    rw [hg]
    obtain ⟨σ3, s4, H3⟩ := H2.del (k := k) (by show (if k = k then _ else _ : Option _).isSome = true; rw [if_pos rfl]; rfl) (ie := xa3 5) (fr := [some (.ref A.dk), some (.ref hm), some (.ref A.ow), some (.int a), some (.int m), some (.int k), some (.int (gap a m b)), some (.int (gap a m e)), some (.bool f)]) (i := 2) rfl rfl
    refine ⟨σ3, some (.int (gap a m b)), some (.int (gap a m e)), some (.bool f), ?_, ?_⟩
    · unfold xmp
      exact xav s1 (xav s2 (xam s3 (xam (xdw ht (by rw [decide_eq_true hc]; exact xam s4 rfl)) rfl)))
    · have : upd (upd w k (some (gap a m b, gap a m e, f))) k none = upd w k none := by
        funext i
        show (if i = k then none else if i = k then _ else w i) = (if i = k then none else w i)
        split <;> rfl
      rw [← this]; exact H3
  · have hg : xjG a m (b, e, f) = some (gap a m b, gap a m e, f) := if_neg hc
    rw [hg]
    refine ⟨σ2, some (.int (gap a m b)), some (.int (gap a m e)), some (.bool f), ?_, H2⟩
    · unfold xmp
      exact xav s1 (xav s2 (xam s3 (xam (xdw ht (by rw [decide_eq_false hc]; rfl)) rfl)))
theorem xpD {hm : Nat} {a m : Int} : ∀ (L : List Nat) {σ : St} {w : Nat → Option (Int × Int × Bool)} (y5 y6 y7 y8 : Option PV), Lw σ g t A j w false nV → L.Nodup → (∀ k ∈ L, k < g.N ∧ (w k).isSome = true) →
    ∃ σ' y5' y6' y7' y8', xeN 5 xmp (L.map (fun k : Nat => PV.int k)) [some (.ref A.dk), some (.ref hm), some (.ref A.ow), some (.int a), some (.int m), y5, y6, y7, y8] σ = some ((.next, [some (.ref A.dk), some (.ref hm), some (.ref A.ow), some (.int a), some (.int m), y5', y6', y7', y8']), σ') ∧ Lw σ' g t A j (xq3 a m L w) false nV
  | [], σ, w, y5, y6, y7, y8, H, _, _ => ⟨σ, y5, y6, y7, y8, rfl, H⟩
  | k :: L, σ, w, y5, y6, y7, y8, H, hn, hL => by
    rw [List.nodup_cons] at hn
    obtain ⟨h1, h2⟩ := hL k (List.mem_cons_self ..)
    obtain ⟨σ1, x6, x7, x8, e1, e2⟩ := xrO H h1 h2 (hm := hm) (a := a) (m := m) y6 y7 y8
    obtain ⟨σ2, z5, z6, z7, z8, f1, f2⟩ := xpD L (some (.int k)) x6 x7 x8 e2 hn.2 (fun i hi => by
      obtain ⟨q1, q2⟩ := hL i (List.mem_cons_of_mem _ hi)
      refine ⟨q1, ?_⟩
      have : i ≠ k := fun q => hn.1 (by rw [← q]; exact hi)
      show (if i = k then _ else w i).isSome = true
      rw [if_neg this]; exact q2)
    refine ⟨σ2, z5, z6, z7, z8, ?_, f2⟩
    show bnd (xmp [some (.ref A.dk), some (.ref hm), some (.ref A.ow), some (.int a), some (.int m), some (.int k), y6, y7, y8] σ) _ = _
    rw [xaj e1]
    exact f1
theorem xhO (H : Lw σ g t A j w z nV) {a : xa6 → M PV} {fr : xa6} {σ0 : St} (ha : a fr σ0 = some (.ref A.ow, σ)) : xad xbY (xa1 a xa8) fr σ0 = some (.ref σ.next, σ.push (.list ((xcr g.N (fun k => (w k).isSome)).map .int))) := by
  obtain ⟨D, hD, hO⟩ := H.own
  have hl := H.dlen hO
  refine xb2 (vs := [.ref A.ow]) (σ0 := σ) (xaR ha xdo) ?_
  have hk : xhH (.ref A.ow) σ = some (D.map (·.1)) := by
    cases z
    · have hD' : σ.objs A.ow = .dict D := hD
      simp only [xhH, xc7, hD']
    · have hD' : σ.objs A.ow = .fdict D := hD
      simp only [xhH, xc7, hD']
  unfold xbY
  dsimp only
  rw [hk]
  dsimp only
  rw [if_pos (by rw [List.length_map]; omega), hO.sort]
  exact if_pos (by rw [List.length_map]; have := xkt g.N (fun k => (w k).isSome); have := H.nN; omega)
theorem xes {k : Nat} : (xcb g k).isSome = true ↔ k < g.N ∧ g.lv k = true := by
  unfold xcb
  split
  · rename_i h; exact ⟨fun _ => h, fun _ => rfl⟩
  · rename_i h; exact ⟨(fun q => by cases q), fun q => absurd q h⟩
theorem xq0 (H : Lw σ g t A j (xcb g) false nV) (hj : j ≤ 800) :
    ∃ (p : PV) (σ' : St) (g' : G) (t' : T), xdO [.ref A.dk, .ref g.hm, .ref A.ow] σ = some (p, σ') ∧ Lw σ' g' t' A (j + 2) (xcb g') false nV ∧ g'.N = g.N ∧ g'.hm = g.hm := by
  have hj2 : j + 1 + 1 = j + 2 := by omega
  obtain ⟨a, σ1, c1, a1, b1, H1⟩ := xc5 H (m := 16) (by decide) (by omega) [some (.ref A.dk), some (.ref g.hm), some (.ref A.ow), none, none, none, none, none, none] 0 rfl (e := xaK 16) (fun _ => rfl)
  obtain ⟨d, σ2, c2, a2, b2, H2⟩ := xc5 H1 (m := 5) (by decide) (by omega) [some (.ref A.dk), some (.ref g.hm), some (.ref A.ow), none, none, none, none, none, none] 0 rfl (e := xaK 5) (fun _ => rfl)
  have s1 := xdF (ks := [3, 4]) (xhZ (xaR c1 (xaR (xi7 (f := xda) (a := xaK 1) rfl c2 (show xda (.int 1) (.int d) σ2 = some (.int (1 + d), σ2) from rfl)) xdo)) (by show 2 ≤ 1000; decide)) rfl
  obtain ⟨p, σ3, t3, L, e1, e2, e3, e4⟩ := xrk H2.ps (a := a) (b := a + (1 + d)) (by omega)
  have hmm : a + (1 + d) - a = 1 + d := by omega
  rw [hmm] at e2 e4
  have hge := xop L (g.shut a (1 + d))
  have hlv := xor L (g.shut a (1 + d))
  generalize hg3 : G.goneL L (g.shut a (1 + d)) = g3 at e2 hge hlv
  have H3 : Lw σ3 g3 t3 A (j + 1 + 1) (xcb g) false nV := H2.prog e2 e3 (fun x _ => by rw [hge]; rfl) (fun x hx => by rw [hge]; exact H2.fr x (Nat.le_trans e3.next hx)) (by rw [hge]; exact Nat.le_refl _) (by rw [hge]; exact H.nN) (fun k _ => by rw [hge]; rfl)
  have N3 : g3.N = g.N := by rw [hge]; rfl
  have hh := H2.ps.home
  have s2 : xb1 (xn9 3 xbq (xa3 1) (xa1 (xa3 3) (xa1 (xbG xda (xa3 3) (xa3 4)) xa8))) [some (.ref A.dk), some (.ref g.hm), some (.ref A.ow), some (.int a), some (.int (1 + d)), none, none, none, none] σ2 = some ((.next, [some (.ref A.dk), some (.ref g.hm), some (.ref A.ow), some (.int a), some (.int (1 + d)), none, none, none, none]), σ3) := by
    unfold xb1 xn9
    show bnd (if isC 3 (.ref g.hm) σ2 = true then bnd (some ([PV.int a, PV.int (a + (1 + d))], σ2)) _ else none) _ = _
    rw [if_pos (by unfold isC; simp only [hh]; rfl)]
    show bnd (xbq [.ref g.hm, .int a, .int (a + (1 + d))] σ2) _ = _
    rw [e1]
    rfl
  have hsort := xhO H3 (a := xa3 2) (fr := [some (.ref A.dk), some (.ref g.hm), some (.ref A.ow), some (.int a), some (.int (1 + d)), none, none, none, none]) (σ0 := σ3) rfl
  generalize hns : ((List.range g3.N).filter (fun k => (xcb g k).isSome)) = ns
  have hcan : (xcr g3.N (fun k => (xcb g k).isSome)).map PV.int = ns.map (fun k : Nat => PV.int k) := by rw [← hns]; unfold xcr; rw [List.map_map]; rfl
  rw [hcan] at hsort
  have nsn : ns.Nodup := by rw [← hns]; exact List.nodup_range.sublist List.filter_sublist
  have nsm : ∀ k, k ∈ ns ↔ k < g.N ∧ g.lv k = true := fun k => by
    rw [← hns, List.mem_filter, List.mem_range, N3, xes]
    exact ⟨fun h => h.2, fun h => ⟨h.1, h⟩⟩
  generalize hσ4 : (σ3.push (.list (ns.map (fun k : Nat => PV.int k)))) = σ4 at hsort
  have H4 : Lw (σ4.set σ3.next (.flist (ns.map (fun k : Nat => PV.int k)))) g3 t3 A (j + 1 + 1) (xcb g) false nV := H3.quiet (by rw [← hσ4]; exact Nat.le_succ _) (fun x hx => by
    rw [xao, if_neg (by omega), ← hσ4]
    exact if_neg (by omega))
  have hit : xbo (.ref σ3.next) σ4 = some (ns.map (fun k : Nat => PV.int k), σ4.set σ3.next (.flist (ns.map (fun k : Nat => PV.int k)))) := xd0 (by rw [← hσ4]; exact if_pos rfl)
  obtain ⟨σ5, y5, y6, y7, y8, f1, f2⟩ := xpD (hm := g.hm) (a := a) (m := 1 + d) ns none none none none H4 nsn (fun k hk => by
    have := (nsm k).mp hk
    exact ⟨by rw [N3]; exact this.1, xes.mpr this⟩)
  refine ⟨.none, σ5, g3, t3, ?_, ?_, N3, by rw [hge]; rfl⟩
  · unfold xdO xaT
    show bnd (xfw [some (.ref A.dk), some (.ref g.hm), some (.ref A.ow), none, none, none, none, none, none] σ) _ = _
    unfold xfw
    rw [xav (fr1 := [some (.ref A.dk), some (.ref g.hm), some (.ref A.ow), some (.int a), some (.int (1 + d)), none, none, none, none]) s1 (xam s2 (xav (σ1 := σ5) (fr1 := [some (.ref A.dk), some (.ref g.hm), some (.ref A.ow), some (.int a), some (.int (1 + d)), y5, y6, y7, y8]) (by
      unfold xeE
      rw [xaj hsort]
      show (match xbo (.ref σ3.next) σ4 with | some (vs, σ2) => _ | none => none) = _
      rw [hit]
      exact f1) rfl))]
    rfl
  · have hwe : xq3 a (1 + d) ns (xcb g) = xcb g3 := by
      funext k
      rw [xok _ _ _ _ nsn]
      have h3 : xcb g3 k = if k < g.N ∧ g3.lv k = true then some (gap a (1 + d) (g.B k), gap a (1 + d) (g.E k), g.fl k) else none := by
        unfold xcb
        rw [hge]
        rfl
      have hlk : g3.lv k = (g.lv k && !(decide (k ∈ L) && (decide (gap a (1 + d) (g.B k) = gap a (1 + d) (g.E k)) && g.fl k))) := hlv k
      by_cases hk : k < g.N ∧ g.lv k = true
      · rw [if_pos ((nsm k).mpr hk), h3, hlk, hk.2]
        have hw : xcb g k = some (g.B k, g.E k, g.fl k) := if_pos hk
        rw [hw]
        show xjG a (1 + d) (g.B k, g.E k, g.fl k) = _
        unfold xjG
        dsimp only
        have hLk := e4 k
        have hbe : gap a (1 + d) (g.B k) ≤ gap a (1 + d) (g.E k) := xlK (by omega) (H2.ps.be k hk.1 hk.2)
        by_cases hc : gap a (1 + d) (g.B k) = gap a (1 + d) (g.E k) ∧ gap a (1 + d) (g.E k) = a ∧ g.fl k = true
        · rw [if_pos hc, if_neg]
          have hin : k ∈ L := hLk.mpr ⟨hk.1, hk.2, by omega, by omega⟩
          simp [hin, hc.1, hc.2.2]
        · rw [if_neg hc, if_pos]
          refine ⟨hk.1, ?_⟩
          by_cases h1 : k ∈ L
          · by_cases h2 : gap a (1 + d) (g.B k) = gap a (1 + d) (g.E k)
            · by_cases h4 : g.fl k = true
              · have := hLk.mp h1
                exact absurd ⟨h2, by omega, h4⟩ hc
              · simp [h4]
            · simp [h2]
          · simp [h1]
      · rw [if_neg (fun q => hk ((nsm k).mp q)), h3, if_neg]
        · exact if_neg hk
        · rintro ⟨q1, q2⟩
          rw [hlk, Bool.and_eq_true] at q2
          exact hk ⟨q1, q2.1⟩
    rw [← hwe, ← hj2]
    exact f2
end
end
section
open PySem
section
variable {σ σ' : St} {g g' : G} {t t' : T} {A : Adr} {j j' : Int} {w w' : Nat → Option (Int × Int × Bool)} {z z' : Bool} {nV nV' : Nat} {D : List (Int × PV)} {ol : Nat}
theorem xqa (H : Lw σ g t A j (xcb g) false g.N) (hj : j ≤ 800) (hN : 0 < g.N) :
    ∃ (p : PV) (σ' : St) (g' : G) (t' : T), xcS [.ref A.dk, .ref g.hm, .ref A.ow, .ref A.ol] σ = some (p, σ') ∧ Lw σ' g' t' A (j + 3) (xcb g') false g'.N ∧ g'.N = g.N ∧ g'.hm = g.hm := by
  have hj3 : j + 1 + 1 + 1 = j + 3 := by omega
  obtain ⟨d, σ1, c1, a1, b1, H1⟩ := xlX H (m := g.N) (by omega) (by omega)
  have c1' : xad xaF (xa1 (xa3 0) (xa1 (xad xgx (xa1 (xa3 3) xa8)) xa8)) [some (.ref A.dk), some (.ref g.hm), some (.ref A.ow), some (.ref A.ol), none, none, none, none] σ = some (.int d, σ1) :=
    xb2 (vs := [.ref A.dk, .int g.N]) (σ0 := σ) (xaR rfl (xaR (xb2 (vs := [.ref A.ol]) (σ0 := σ) rfl (by simp only [xgx, H.ol]; rw [List.length_map, List.length_range])) xdo)) c1
  obtain ⟨b, σ2, c2, a2, b2, H2⟩ := xc5 H1 (m := 14) (by decide) (by omega) [some (.ref A.dk), some (.ref g.hm), some (.ref A.ow), some (.ref A.ol), none, none, none, none] 0 rfl (e := xaK 14) (fun _ => rfl)
  obtain ⟨s, σ3, c3, a3, b3, H3⟩ := xc5 H2 (m := 3) (by decide) (by omega) [some (.ref A.dk), some (.ref g.hm), some (.ref A.ow), some (.ref A.ol), none, none, none, none] 0 rfl (e := xaK 3) (fun _ => rfl)
  have s1 := xdF (ks := [4, 5, 6]) (xhZ (xaR c1' (xaR c2 (xaR c3 xdo))) (by show 3 ≤ 1000; decide)) rfl
  obtain ⟨k, hk⟩ : ∃ k : Nat, d = k := ⟨d.toNat, by omega⟩
  subst hk
  have hkN : k < g.N := by omega
  have hov := H3.ps.over k hkN
  have hpl := H3.ps.plist k hkN
  have holk : ∀ σ, σ.objs A.ol = .list ((List.range g.N).map (fun k => PV.ref (g.ov k))) → ∀ y7, xbE (xa3 3) (xa3 4) [some (.ref A.dk), some (.ref g.hm), some (.ref A.ow), some (.ref A.ol), some (.int k), some (.int b), some (.int s), y7] σ = some (.ref (g.ov k), σ) := fun σ h y7 =>
    xd2 (i := k) rfl rfl h (by rw [List.getElem?_map, List.getElem?_range hkN]; rfl)
  generalize hσ4 : σ3.push (.list []) = σ4
  have H4 : Lw σ4 g t A (j + 1 + 1 + 1) (xcb g) false g.N := H3.quiet (by rw [← hσ4]; exact Nat.le_succ _) (fun x hx => by rw [← hσ4]; exact if_neg (by omega))
  have s2 : xak 7 (xdY (xa9 xbK (xbE (xa3 3) (xa3 4))) (xai cNe (xc8 xa8))) [some (.ref A.dk), some (.ref g.hm), some (.ref A.ow), some (.ref A.ol), some (.int k), some (.int b), some (.int s), none] σ3 = some ((.next, [some (.ref A.dk), some (.ref g.hm), some (.ref A.ow), some (.ref A.ol), some (.int k), some (.int b), some (.int s), some (.bool (g.fl k))]), σ4) := by
    have e1 : xa9 xbK (xbE (xa3 3) (xa3 4)) [some (.ref A.dk), some (.ref g.hm), some (.ref A.ow), some (.ref A.ol), some (.int k), some (.int b), some (.int s), none] σ3 = some (.ref (g.pl k), σ3) := xd4 (i := g.ov k) (holk σ3 H3.ol none) hov rfl rfl
    have e2 : xai cNe (xc8 xa8) (.ref (g.pl k)) [some (.ref A.dk), some (.ref g.hm), some (.ref A.ow), some (.ref A.ol), some (.int k), some (.int b), some (.int s), none] σ3 = some (g.fl k, σ4) := by
      unfold xai
      rw [xaj (xgv xdo (by show 0 ≤ 1000; decide)), hσ4]
      have h1 : σ4.objs (g.pl k) = .list (xsL (g.fl k)) := H4.ps.plist k hkN
      have h2 : σ4.objs σ3.next = .list [] := by rw [← hσ4]; exact if_pos rfl
      simp only [cNe, xc7, h1, h2]
      cases g.fl k <;> rfl
    unfold xak
    rw [xaj (xfs e1 e2)]
    rfl
  obtain ⟨σ5, t5, m1, m2, m3⟩ := xpa H4.ps H.nN hkN (b := b) (e := b + s) (by omega)
  generalize hg5 : (g.lay k b (b + s)).gone k (decide (b = b + s) && g.fl k) = g5 at m2
  have N5 : g5.N = g.N := by rw [← hg5]; rfl
  have hm5 : g5.hm = g.hm := by rw [← hg5]; rfl
  have H5 : Lw σ5 g5 t5 A (j + 1 + 1 + 1) (xcb g) false g.N := H4.prog m2 m3 (fun x _ => by rw [← hg5]; rfl) (fun x hx => by rw [← hg5]; exact H4.fr x (Nat.le_trans m3.next hx)) (by rw [N5]; exact Nat.le_refl _) (by rw [N5]; exact H.nN) (fun i _ => by rw [← hg5]; rfl)
  have s3 : xb1 (xad xc6 (xa1 (xbE (xa3 3) (xa3 4)) (xa1 (xa3 1) (xa1 (xa3 5) (xa1 (xbG xda (xa3 5) (xa3 6)) xa8))))) [some (.ref A.dk), some (.ref g.hm), some (.ref A.ow), some (.ref A.ol), some (.int k), some (.int b), some (.int s), some (.bool (g.fl k))] σ4 = some ((.next, [some (.ref A.dk), some (.ref g.hm), some (.ref A.ow), some (.ref A.ol), some (.int k), some (.int b), some (.int s), some (.bool (g.fl k))]), σ5) :=
    xbx (vs := [.ref (g.ov k), .ref g.hm, .int b, .int (b + s)]) (σ0 := σ4) (xaR (holk σ4 H4.ol _) rfl) m1
  obtain ⟨σ6, s4, H6⟩ := H5.row (k := k) (by omega) (m := xa1 (xa3 5) (xa1 (xbG xda (xa3 5) (xa3 6)) (xa1 (xa3 7) xa8))) (ie := xa3 4) (fr := [some (.ref A.dk), some (.ref g.hm), some (.ref A.ow), some (.ref A.ol), some (.int k), some (.int b), some (.int s), some (.bool (g.fl k))]) (σ0 := σ5) (i := 2) (b := b) (e := b + s) (f := g.fl k) rfl rfl (fun _ => rfl)
  have ht : (xcK (xaP (xa3 6) (xai cEq (xaK 0))) (xcK (xbe (xa3 7)) xbV)) [some (.ref A.dk), some (.ref g.hm), some (.ref A.ow), some (.ref A.ol), some (.int k), some (.int b), some (.int s), some (.bool (g.fl k))] σ6 = some (decide (b = b + s) && g.fl k, σ6) := by
    have h1 : xaP (xa3 6) (xai cEq (xaK 0)) [some (.ref A.dk), some (.ref g.hm), some (.ref A.ow), some (.ref A.ol), some (.int k), some (.int b), some (.int s), some (.bool (g.fl k))] σ6 = some (decide (b = b + s), σ6) := by
      show some (decide (s = 0), σ6) = _
      congr 2
      exact decide_eq_decide.mpr ⟨fun h => by omega, fun h => by omega⟩
    unfold xcK
    rw [xaj h1]
    cases decide (b = b + s) <;> cases g.fl k <;> rfl
  have hrun : ∀ {σ7 fr7}, (sIf (xcK (xaP (xa3 6) (xai cEq (xaK 0))) (xcK (xbe (xa3 7)) xbV)) (xa5 (xqZ (xa3 2) (xa3 4)) xaC) xaC) [some (.ref A.dk), some (.ref g.hm), some (.ref A.ow), some (.ref A.ol), some (.int k), some (.int b), some (.int s), some (.bool (g.fl k))] σ6 = some ((.next, fr7), σ7) → xcS [.ref A.dk, .ref g.hm, .ref A.ow, .ref A.ol] σ = some (.none, σ7) := by
    intro σ7 fr7 h
    unfold xcS xaT
    show bnd (xeR [some (.ref A.dk), some (.ref g.hm), some (.ref A.ow), some (.ref A.ol), none, none, none, none] σ) _ = _
    unfold xeR
    rw [xav s1 (xav s2 (xam s3 (xam s4 (xav h rfl))))]
    rfl
  have lv5 : g5.lv k = !(decide (b = b + s) && g.fl k) := by
    rw [← hg5]
    show (if k = k then (if k = k then true else g.lv k) && !(decide (b = b + s) && g.fl k) else _) = _
    rw [if_pos rfl, if_pos rfl]; rfl
  have B5 : g5.B k = b := by rw [← hg5]; exact if_pos rfl
  have E5 : g5.E k = b + s := by rw [← hg5]; exact if_pos rfl
  have fl5 : g5.fl = g.fl := by rw [← hg5]; rfl
  have oth5 : ∀ i, i ≠ k → g5.lv i = g.lv i ∧ g5.B i = g.B i ∧ g5.E i = g.E i := fun i hi => by
    rw [← hg5]
    exact ⟨(if_neg hi).trans (if_neg hi), if_neg hi, if_neg hi⟩
  cases hc : (decide (b = b + s) && g.fl k) with
  | true =>
    obtain ⟨σ7, s5, H7⟩ := H6.del (k := k) (by show (if k = k then _ else _ : Option _).isSome = true; rw [if_pos rfl]; rfl) (ie := xa3 4) (fr := [some (.ref A.dk), some (.ref g.hm), some (.ref A.ow), some (.ref A.ol), some (.int k), some (.int b), some (.int s), some (.bool (g.fl k))]) (i := 2) rfl rfl
    refine ⟨.none, σ7, g5, t5, hrun (xdw ht (by rw [hc]; exact xam s5 rfl)), ?_, N5, hm5⟩
    have hwe : upd (upd (xcb g) k (some (b, b + s, g.fl k))) k none = xcb g5 := by
      funext i
      show (if i = k then none else if i = k then _ else xcb g i) = xcb g5 i
      unfold xcb
      by_cases q : i = k
      · rw [if_pos q, q, lv5, hc]; simp
      · obtain ⟨z1, z2, z3⟩ := oth5 i q
        rw [if_neg q, if_neg q, N5, z1, z2, z3, fl5]
    rw [← hwe, ← hj3, N5]; exact H7
  | false =>
    refine ⟨.none, σ6, g5, t5, hrun (xdw ht (by rw [hc]; rfl)), ?_, N5, hm5⟩
    have hwe : upd (xcb g) k (some (b, b + s, g.fl k)) = xcb g5 := by
      funext i
      show (if i = k then _ else xcb g i) = xcb g5 i
      unfold xcb
      by_cases q : i = k
      · rw [if_pos q, q, lv5, hc, N5, B5, E5, fl5]; simp [hkN]
      · obtain ⟨z1, z2, z3⟩ := oth5 i q
        rw [if_neg q, N5, z1, z2, z3, fl5]
    rw [← hwe, ← hj3, N5]; exact H6
end
end
section
open PySem
noncomputable def xt7 : xa6 → M PV := (xeJ (xa1 (xad xfz (xa1 (xad xh4 (xa1 (xad xgT (xa1 (xaK 100) xa8)) xa8)) xa8)) (xa1 xkr (xa1 (xc8 xa8) xa8))))
theorem xqJ (f : Nat → xg2) (fr : xa6) : ∃ f', xt7 fr ⟨f, 3⟩ = some (.tup [.ref 7, .ref 10, .ref 11], ⟨f', 12⟩) ∧ (∀ a, a < 3 → f' a = f a) ∧ f' 5 = ruO 3 6 ∧ f' 7 = .inst 3 [.ref 8, .ref 9, .ref 5] ∧ f' 8 = .inst 1 [.none, .int 0] ∧ f' 9 = .dict [] ∧ f' 10 = .dict [] ∧ f' 11 = .list [] := by
  refine ⟨_, rfl, fun a ha => ?_, rfl, rfl, rfl, rfl, rfl, rfl⟩
  match a, ha with
  | 0, _ => rfl
  | 1, _ => rfl
  | 2, _ => rfl
end
section
open PySem
theorem xlo {α : Type} {r : α → PV} {t : xa6 → M Bool} {e : xa6 → M PV} {fr : xa6} {b : α → Bool} {f : α → PV} (Inv : St → Prop) : ∀ (I : List α) (acc : List PV) (σ : St), Inv σ → (∀ v ∈ I, ∀ σ, Inv σ → ∃ σ', t (some (r v) :: fr) σ = some (b v, σ') ∧ Inv σ') → (∀ v ∈ I, ∀ σ, Inv σ → e (some (r v) :: fr) σ = some (f v, σ)) → acc.length + I.length ≤ 1000 →
    ∃ σ', xev t e fr (I.map r) acc σ = some (acc ++ (I.filter b).map f, σ') ∧ Inv σ'
  | [], acc, σ, h0, _, _, _ => ⟨σ, by simp [xev], h0⟩
  | v :: vs, acc, σ, h0, h1, h2, hz => by
    rw [List.length_cons] at hz
    obtain ⟨σ1, e1, i1⟩ := h1 v (List.mem_cons_self ..) σ h0
    show ∃ σ', bnd (t (some (r v) :: fr) σ) _ = _ ∧ _
    rw [xaj e1]
    cases hb : b v with
    | false =>
      rw [List.filter_cons, hb]
      exact xlo Inv vs acc σ1 i1 (fun w hw => h1 w (List.mem_cons_of_mem _ hw)) (fun w hw => h2 w (List.mem_cons_of_mem _ hw)) (by omega)
    | true =>
      obtain ⟨σ2, e3, i3⟩ := xlo Inv vs (acc ++ [f v]) σ1 i1 (fun w hw => h1 w (List.mem_cons_of_mem _ hw)) (fun w hw => h2 w (List.mem_cons_of_mem _ hw)) (by rw [List.length_append, List.length_singleton]; omega)
      refine ⟨σ2, ?_, i3⟩
      show bnd (e (some (r v) :: fr) σ1) _ = _
      rw [xaj (h2 v (List.mem_cons_self ..) σ1 i1), if_pos (by omega), e3, List.filter_cons, hb]
      simp
theorem xlL {α : Type} {r : α → PV} {keep : List Bool} {a : xa6 → M PV} {t : xa6 → M Bool} {e : xa6 → M PV} {fr : xa6} {x : PV} {σ σ0 σ1 : St} {I : List α} {b : α → Bool} {f : α → PV} (Inv : St → Prop) (ha : a fr σ0 = some (x, σ)) (hl : xbo x σ = some (I.map r, σ1)) (hz : I.length ≤ 1000) (h0 : Inv σ1)
    (h1 : ∀ v ∈ I, ∀ σ, Inv σ → ∃ σ', t (some (r v) :: xeO keep fr) σ = some (b v, σ') ∧ Inv σ') (h2 : ∀ v ∈ I, ∀ σ, Inv σ → e (some (r v) :: xeO keep fr) σ = some (f v, σ)) :
    ∃ σ2, xdg keep a t e fr σ0 = some (.ref σ2.next, σ2.push (.list ((I.filter b).map f))) ∧ Inv σ2 := by
  obtain ⟨σ2, e2, i2⟩ := xlo (t := t) (e := e) (b := b) (f := f) Inv I [] σ1 h0 h1 h2 (by simpa using hz)
  refine ⟨σ2, ?_, i2⟩
  unfold xdg
  rw [xaj ha]
  rw [hl]
  show bnd (xev _ _ _ _ _ _) _ = _
  rw [xaj e2]
  unfold xnM
  rw [if_pos (by rw [List.nil_append, List.length_map]; exact Nat.le_trans (List.length_filter_le _ _) hz)]
  rfl
theorem xmM {N : Nat} {p q : Nat → Bool} (h : ∀ k, k < N → p k = q k) : xcr N p = xcr N q := by
  unfold xcr
  congr 1
  exact List.filter_congr (fun k hk => h k (List.mem_range.mp hk))
section
variable {σ σ' : St} {g g' : G} {t t' : T} {A : Adr} {j j' : Int} {w w' : Nat → Option (Int × Int × Bool)} {z z' : Bool} {nV nV' : Nat} {D : List (Int × PV)} {ol : Nat}
theorem xpN {a : xa6 → M PV} {fr : xa6} {σ σ0 : St} {r : Nat} {ks : List Int} (ha : a fr σ0 = some (.ref r, σ)) (hr : σ.objs r = .list (ks.map .int)) (hl : ks.length < 64) : xad xbY (xa1 a xa8) fr σ0 = some (.ref σ.next, σ.push (.list ((xkh ks).map .int))) := by
  refine xb2 (vs := [.ref r]) (σ0 := σ) (xaR ha xdo) ?_
  have hk : xhH (.ref r) σ = some ks := by
    simp only [xhH, xc7, hr, xdL]
  unfold xbY
  dsimp only
  rw [hk]
  dsimp only
  rw [if_pos hl]
  have : (xkh ks).length = ks.length := (List.mergeSort_perm ks (fun a b => decide (a ≤ b))).length_eq
  exact if_pos (by rw [List.length_map]; omega)
theorem xoP (H : Lw σ g t A j w z nV) {c : xa6 → M PV} {fr : xa6} {keep : List Bool} {r0 : Nat} {σ1 : St} {t1 : T} {L : List Nat} {p : Nat → Bool} (hc : c fr σ = some (.ref r0, σ1)) (P1 : PS σ1 g t1) (U1 : Unt g σ σ1) (h0 : σ.next ≤ r0) (h1 : r0 < σ1.next) (ho : σ1.objs r0 = .list (L.map (fun k => .ref (g.ov k)))) (hn : L.Nodup) (hl : L.length ≤ 6) (hm : ∀ k, k ∈ L ↔ k < g.N ∧ p k = true) :
    ∃ r σ', xad xbY (xa1 (xdg keep c xbV (xa9 xb6 (xa3 0))) xa8) fr σ = some (.ref r, σ') ∧ σ'.objs r = .list ((xcr g.N p).map .int) ∧ Lw σ' g t1 A j w z nV ∧ r < σ'.next := by
  generalize hσ2 : σ1.set r0 (.flist (L.map (fun k => .ref (g.ov k)))) = σ2
  have hit : xbo (.ref r0) σ1 = some (L.map (fun k => PV.ref (g.ov k)), σ2) := by rw [xd0 ho, hσ2]
  have o2 : ∀ a, a ≠ r0 → σ2.objs a = σ1.objs a := fun a ha => by rw [← hσ2, xao, if_neg ha]
  have x2 : σ2.next = σ1.next := by rw [← hσ2]; rfl
  have hcomp := xds (α := Nat) (r := fun k => PV.ref (g.ov k)) (keep := keep) (a := c) (t := xbV) (e := xa9 xb6 (xa3 0)) (fr := fr) (σ0 := σ) (I := L) (b := fun _ => true) (f := fun k => .int k) hc hit (by omega) (fun _ _ => rfl) (fun k hk _ => by
    have hkN := ((hm k).mp hk).1
    have hov := H.ps.lov k hkN
    exact xd4 (i := g.ov k) rfl ((o2 _ (by omega)).trans (P1.over k hkN)) rfl rfl)
  rw [List.filter_eq_self.mpr (fun _ _ => rfl)] at hcomp
  have hmap : L.map (fun k : Nat => PV.int k) = (L.map (fun k : Nat => (k : Int))).map .int := by rw [List.map_map]; rfl
  rw [hmap] at hcomp
  have hs := xpN (a := xdg keep c xbV (xa9 xb6 (xa3 0))) hcomp (if_pos rfl) (by rw [List.length_map]; omega)
  rw [xhU (N := g.N) (p := p) (by
    rw [List.nodup_iff_pairwise_ne, List.pairwise_map]
    exact (List.nodup_iff_pairwise_ne.mp hn).imp (fun h q => h (by omega))) (fun x => by
    rw [List.mem_map]
    constructor
    · rintro ⟨k, h, rfl⟩
      have := (hm k).mp h
      exact ⟨k, this.1, this.2, rfl⟩
    · rintro ⟨k, h1, h2, rfl⟩
      exact ⟨k, (hm k).mpr ⟨h1, h2⟩, rfl⟩)] at hs
  refine ⟨_, _, hs, if_pos rfl, ?_, Nat.lt_succ_self _⟩
  have u1 := U1.next
  have hold : ∀ a, a < σ.next → ((σ2.push (.list ((L.map (fun k : Nat => (k : Int))).map .int))).push (.list ((xcr g.N p).map .int))).objs a = σ1.objs a := fun a ha => by
    show (if a = σ2.next + 1 then _ else if a = σ2.next then _ else σ2.objs a) = _
    rw [if_neg (by omega), if_neg (by omega)]
    exact o2 a (by omega)
  have hle : σ1.next ≤ ((σ2.push (.list ((L.map (fun k : Nat => (k : Int))).map .int))).push (.list ((xcr g.N p).map .int))).next := by
    show σ1.next ≤ σ2.next + 1 + 1
    omega
  exact H.prog (H.ps.move P1 hold hle) ⟨Nat.le_trans u1 hle, fun a h1 h2 => (hold a h1).trans (U1.old a h1 h2)⟩ (fun _ _ => rfl) (fun a ha => H.fr a (Nat.le_trans (Nat.le_trans u1 hle) ha)) (Nat.le_refl _) H.nN (fun _ _ => rfl)
theorem xoT (H : Lw σ g t A j (xcb g) z nV) {a : xa6 → M PV} {keep : List Bool} {tst : xa6 → M Bool} {fr : xa6} (ha : a fr σ = some (.ref A.ow, σ)) (q : Nat → Bool) (ht : ∀ k, k < g.N → g.lv k = true → ∀ σ1, Lw σ1 g t A j (xcb g) z nV → ∃ σ2, tst (some (.int k) :: xeO keep fr) σ1 = some (q k, σ2) ∧ σ1.next ≤ σ2.next ∧ ∀ a, a < σ1.next → σ2.objs a = σ1.objs a) :
    ∃ r σ', xdg keep (xad xbY (xa1 a xa8)) tst (xa3 0) fr σ = some (.ref r, σ') ∧ σ'.objs r = .list ((xcr g.N (fun k => g.lv k && q k)).map .int) ∧ Lw σ' g t A j (xcb g) z nV ∧ ∀ a, a < σ.next → σ'.objs a = σ.objs a := by
  have hsort := xhO H ha
  generalize hns : ((List.range g.N).filter (fun k => (xcb g k).isSome)) = ns
  have hcan : (xcr g.N (fun k => (xcb g k).isSome)).map PV.int = ns.map (fun k : Nat => PV.int k) := by rw [← hns]; unfold xcr; rw [List.map_map]; rfl
  rw [hcan] at hsort
  have nsm : ∀ k, k ∈ ns ↔ k < g.N ∧ g.lv k = true := fun k => by
    rw [← hns, List.mem_filter, List.mem_range, xes]
    exact ⟨fun h => h.2, fun h => ⟨h.1, h⟩⟩
  have nsl : ns.length ≤ 1000 := by
    have := List.length_filter_le (fun k => (xcb g k).isSome) (List.range g.N)
    rw [hns, List.length_range] at this
    have := H.nN
    omega
  generalize hσ4 : (σ.push (.list (ns.map (fun k : Nat => PV.int k)))) = σ4 at hsort
  have hit : xbo (.ref σ.next) σ4 = some (ns.map (fun k : Nat => PV.int k), σ4.set σ.next (.flist (ns.map (fun k : Nat => PV.int k)))) := xd0 (by rw [← hσ4]; exact if_pos rfl)
  have old : ∀ x, x < σ.next → (σ4.set σ.next (.flist (ns.map (fun k : Nat => PV.int k)))).objs x = σ.objs x := fun x hx => by
    rw [xao, if_neg (by omega), ← hσ4]
    exact if_neg (by omega)
  have nx : σ.next ≤ (σ4.set σ.next (.flist (ns.map (fun k : Nat => PV.int k)))).next := by rw [← hσ4]; exact Nat.le_succ _
  obtain ⟨σ5, e1, i1, i2, i3⟩ := xlL (α := Nat) (r := fun k => PV.int k) (keep := keep) (a := xad xbY (xa1 a xa8)) (t := tst) (e := xa3 0) (fr := fr) (b := q) (f := fun k => .int k) (fun σ1 => Lw σ1 g t A j (xcb g) z nV ∧ σ.next ≤ σ1.next ∧ ∀ x, x < σ.next → σ1.objs x = σ.objs x) hsort hit nsl ⟨H.quiet nx old, nx, old⟩ (fun k hk σ1 hi => by
    obtain ⟨h1, h2, h3⟩ := hi
    have hkk := (nsm k).mp hk
    obtain ⟨σ2, t1, t2, t3⟩ := ht k hkk.1 hkk.2 σ1 h1
    exact ⟨σ2, t1, h1.quiet t2 t3, Nat.le_trans h2 t2, fun x hx => (t3 x (by omega)).trans (h3 x hx)⟩) (fun k _ σ1 _ => rfl)
  have hmap : (ns.filter q).map (fun k : Nat => PV.int k) = (xcr g.N (fun k => g.lv k && q k)).map .int := by
    unfold xcr
    rw [List.map_map, ← hns, List.filter_filter]
    show List.map _ _ = List.map _ _
    congr 1
    refine List.filter_congr (fun k hk => ?_)
    have : (xcb g k).isSome = g.lv k := by
      have h := @xes g k
      have hk' := List.mem_range.mp hk
      cases hl : g.lv k with
      | true => exact h.mpr ⟨hk', hl⟩
      | false =>
        cases hs : (xcb g k).isSome with
        | false => rfl
        | true => have := (h.mp hs).2; rw [hl] at this; cases this
    rw [this, Bool.and_comm]
  rw [hmap] at e1
  refine ⟨_, _, e1, if_pos rfl, i1.quiet (Nat.le_succ _) (fun x hx => if_neg (by omega)), fun x hx => ?_⟩
  show (if x = σ5.next then _ else σ5.objs x) = _
  rw [if_neg (by omega)]
  exact i3 x hx
end
end
section
open PySem
theorem xoN {a b : xa6 → M PV} {fr : xa6} {σ σ1 σ2 : St} {r1 r2 : Nat} {ks ls : List Int} (ha : a fr σ = some (.ref r1, σ1)) (hb : b fr σ1 = some (.ref r2, σ2)) (h1 : σ2.objs r1 = .list (ks.map .int)) (h2 : σ2.objs r2 = .list (ls.map .int)) : xaP a (xai cNe b) fr σ = some (!decide (ks = ls), σ2) := by
  unfold xaP xai
  rw [xaj ha, xaj hb]
  simp only [cNe, xc7, h1, h2, xdL]
theorem xeP {f : PV → PV → St → Option Bool} {r : xa6 → M PV} {k : PV → xa6 → M Bool} {fr : xa6} {σ σ1 σ2 : St} {x y : PV} {p q : Bool} (hr : r fr σ = some (y, σ1)) (hf : f x y σ1 = some p) (hk : k y fr σ1 = some (q, σ1)) : xbQ f r k x fr σ = some (p && q, σ1) := by
  unfold xbQ
  rw [xaj hr]
  rw [hf]
  cases p
  · rfl
  · exact hk
theorem xei {f : PV → PV → St → Option Bool} {r : xa6 → M PV} {fr : xa6} {σ σ1 : St} {x y : PV} {p : Bool} (hr : r fr σ = some (y, σ1)) (hf : f x y σ1 = some p) : xai f r x fr σ = some (p, σ1) := by
  unfold xai
  rw [xaj hr]
  rw [hf]
def rgB (b e s l : Int) : Bool := !decide (((List.range (l - s).toNat).filter (fun i : Nat => decide (b ≤ s + i) && decide (s + i < e))).map (fun i : Nat => s + (i : Int)) = [])
def xgP (b e s l z : Int) : Bool := if b < e then rgB b e s l || (decide (b < s) && (decide (s = l) && decide (l < e))) else decide (b = s) || ((decide (s < b) && decide (b < l)) || (decide (b = l) && decide (l = z)))
theorem xrV {b e s l : Int} : rgB b e s l = true ↔ ∃ x, s ≤ x ∧ x < l ∧ b ≤ x ∧ x < e := by
  unfold rgB
  rw [Bool.not_eq_true', decide_eq_false_iff_not, List.map_eq_nil_iff, List.filter_eq_nil_iff]
  constructor
  · intro h
    apply Classical.byContradiction
    intro h2
    refine h (fun i hi q => h2 ?_)
    rw [List.mem_range] at hi
    rw [Bool.and_eq_true, decide_eq_true_eq, decide_eq_true_eq] at q
    exact ⟨s + i, by omega, by omega, q.1, q.2⟩
  · rintro ⟨x, h1, h2, h3, h4⟩ h
    refine h (x - s).toNat (List.mem_range.mpr (by omega)) ?_
    rw [Bool.and_eq_true, decide_eq_true_eq, decide_eq_true_eq]
    constructor <;> omega
theorem xqA {b e s l z : Int} {i : Nat} {n : PV} (hsl : s ≤ l) (hbe : b ≤ e) : xgP b e s l z = true ↔ inP s l (decide (l = z)) ⟨i, n, b, e⟩ = true ∧ nbP s l ⟨i, n, b, e⟩ = true := by
  unfold xgP inP nbP
  dsimp only
  by_cases h : b < e
  · rw [if_pos h, if_pos h, Bool.or_eq_true, xrV]
    simp only [Bool.and_eq_true, decide_eq_true_eq]
    constructor
    · rintro (⟨x, h1, h2, h3, h4⟩ | ⟨h1, h2, h3⟩)
      · exact ⟨⟨by omega, by omega⟩, by omega, by omega⟩
      · exact ⟨⟨by omega, by omega⟩, by omega, by omega⟩
    · rintro ⟨⟨h1, h2⟩, h3, h4⟩
      by_cases q : s = l
      · exact .inr ⟨by omega, q, by omega⟩
      · by_cases q2 : s ≤ b
        · exact .inl ⟨b, by omega, by omega, by omega, by omega⟩
        · exact .inl ⟨s, by omega, by omega, by omega, by omega⟩
  · rw [if_neg h, if_neg h]
    simp only [Bool.and_eq_true, Bool.or_eq_true, decide_eq_true_eq]
    constructor
    · intro q
      exact ⟨q, by omega, by omega⟩
    · exact fun q => q.1
theorem xp0 {σ : St} {r : Nat} {b e s l z : Int} {f : Bool} (hr : σ.objs r = .list [.int b, .int e, .bool f]) (hlt : r < σ.next) (hs : 0 ≤ s) (hl : l ≤ 1000) (hsl : s ≤ l) :
    ∃ σ', xc1 [.ref r, .int s, .int l, .int z] σ = some (.bool (xgP b e s l z), σ') ∧ σ.next ≤ σ'.next ∧ ∀ a, a < σ.next → σ'.objs a = σ.objs a := by
  have i0 : ∀ {σ1 : St}, σ1.objs r = .list [.int b, .int e, .bool f] → xbE (xa3 0) (xaK 0) [some (.ref r), some (.int s), some (.int l), some (.int z)] σ1 = some (.int b, σ1) := fun h => xd2 (i := 0) rfl rfl h rfl
  have i1 : ∀ {σ1 : St}, σ1.objs r = .list [.int b, .int e, .bool f] → xbE (xa3 0) (xaK 1) [some (.ref r), some (.int s), some (.int l), some (.int z)] σ1 = some (.int e, σ1) := fun h => xd2 (i := 1) rfl rfl h rfl
  have ht : xaP (xbE (xa3 0) (xaK 0)) (xai cLt (xbE (xa3 0) (xaK 1))) [some (.ref r), some (.int s), some (.int l), some (.int z)] σ = some (decide (b < e), σ) := xfy (i0 hr) (xei (i1 hr) rfl)
  by_cases h : b < e
  · -- of some length
    have hit : xbo (.rng s l) σ = some ((List.range (l - s).toNat).map (fun i : Nat => PV.int (s + i)), σ) := by
      unfold xbo
      exact if_pos ⟨by omega, by omega, by omega, by omega⟩
    have hcomp := xds (α := Nat) (r := fun i : Nat => PV.int (s + i)) (keep := [true, false, false, false]) (a := xad xdE (xa1 (xa3 1) (xa1 (xa3 2) xa8))) (t := xaP (xbE (xa3 1) (xaK 0)) (xbQ cLe (xa3 0) (xai cLt (xbE (xa3 1) (xaK 1))))) (e := xa3 0) (fr := [some (.ref r), some (.int s), some (.int l), some (.int z)]) (σ0 := σ) (b := fun i : Nat => decide (b ≤ s + i) && decide (s + i < e)) (f := fun i : Nat => PV.int (s + i)) (show xad xdE (xa1 (xa3 1) (xa1 (xa3 2) xa8)) [some (.ref r), some (.int s), some (.int l), some (.int z)] σ = some (.rng s l, σ) from rfl) hit (by rw [List.length_range]; omega) (fun i hi => xfy (xd2 (i := 0) (l := r) rfl rfl hr rfl) (xeP (σ2 := σ) (y := .int (s + i)) rfl rfl (xei (xd2 (i := 1) (l := r) rfl rfl hr rfl) rfl))) (fun _ _ _ => rfl)
    have hmap : ((List.range (l - s).toNat).filter (fun i : Nat => decide (b ≤ s + i) && decide (s + i < e))).map (fun i : Nat => PV.int (s + i)) = (((List.range (l - s).toNat).filter (fun i : Nat => decide (b ≤ s + i) && decide (s + i < e))).map (fun i : Nat => s + (i : Int))).map .int := by rw [List.map_map]; rfl
    rw [hmap] at hcomp
    generalize hks : ((List.range (l - s).toNat).filter (fun i : Nat => decide (b ≤ s + i) && decide (s + i < e))).map (fun i : Nat => s + (i : Int)) = ks at hcomp
    have hrg : rgB b e s l = !decide (ks = []) := by rw [← hks]; rfl
    generalize hσ2 : (σ.push (.list (ks.map .int))).push (.list []) = σ2
    have o2 : ∀ a, a < σ.next → σ2.objs a = σ.objs a := fun a ha => by
      rw [← hσ2]
      show (if a = σ.next + 1 then _ else if a = σ.next then _ else σ.objs a) = _
      rw [if_neg (by omega), if_neg (by omega)]
    have hr2 : σ2.objs r = .list [.int b, .int e, .bool f] := (o2 r hlt).trans hr
    have c1 : xdY (xdg [true, false, false, false] (xad xdE (xa1 (xa3 1) (xa1 (xa3 2) xa8))) (xaP (xbE (xa3 1) (xaK 0)) (xbQ cLe (xa3 0) (xai cLt (xbE (xa3 1) (xaK 1))))) (xa3 0)) (xai cNe (xc8 xa8)) [some (.ref r), some (.int s), some (.int l), some (.int z)] σ = some (.bool (rgB b e s l), σ2) := by
      refine xfs hcomp (xei (σ1 := σ2) (y := .ref (σ.next + 1)) (by rw [← hσ2]; rfl) ?_)
      have q1 : σ2.objs σ.next = .list (ks.map .int) := by
        rw [← hσ2]
        show (if σ.next = σ.next + 1 then _ else if σ.next = σ.next then _ else _) = _
        rw [if_neg (by omega), if_pos rfl]
      have q2 : σ2.objs (σ.next + 1) = .list [] := by rw [← hσ2]; exact if_pos rfl
      simp only [cNe, xc7, q1, q2, xdL, hrg]
      rfl
    have c2 : xdY (xbE (xa3 0) (xaK 0)) (xbQ cLt (xa3 1) (xbQ cEq (xa3 2) (xai cLt (xbE (xa3 0) (xaK 1))))) [some (.ref r), some (.int s), some (.int l), some (.int z)] σ2 = some (.bool (decide (b < s) && (decide (s = l) && decide (l < e))), σ2) :=
      xfs (i0 hr2) (xeP (σ2 := σ2) (y := .int s) rfl rfl (xeP (σ2 := σ2) (y := .int l) rfl rfl (xei (i1 hr2) rfl)))
    refine ⟨σ2, ?_, by rw [← hσ2]; show σ.next ≤ σ.next + 1 + 1; omega, o2⟩
    unfold xc1 xaT
    show bnd (xcI [some (.ref r), some (.int s), some (.int l), some (.int z)] σ) _ = _
    unfold xcI
    have hv : xgP b e s l z = (rgB b e s l || (decide (b < s) && (decide (s = l) && decide (l < e)))) := if_pos h
    rw [xb8 (v := .bool (xgP b e s l z)) (fr1 := [some (.ref r), some (.int s), some (.int l), some (.int z)]) (σ1 := σ2) (xdw ht (by
      rw [decide_eq_true h, hv]
      exact xb8 (by unfold xcA; rw [xaj (xmr c1 c2)])))]
    rfl
  · have c1 : xdY (xbE (xa3 0) (xaK 0)) (xai cEq (xa3 1)) [some (.ref r), some (.int s), some (.int l), some (.int z)] σ = some (.bool (decide (b = s)), σ) := xfs (i0 hr) (xei rfl rfl)
    have c2 : xdY (xa3 1) (xbQ cLt (xbE (xa3 0) (xaK 0)) (xai cLt (xa3 2))) [some (.ref r), some (.int s), some (.int l), some (.int z)] σ = some (.bool (decide (s < b) && decide (b < l)), σ) := xfs (x := .int s) rfl (xeP (σ2 := σ) (i0 hr) rfl (xei rfl rfl))
    have c3 : xdY (xbE (xa3 0) (xaK 0)) (xbQ cEq (xa3 2) (xai cEq (xa3 3))) [some (.ref r), some (.int s), some (.int l), some (.int z)] σ = some (.bool (decide (b = l) && decide (l = z)), σ) := xfs (i0 hr) (xeP (σ2 := σ) (y := .int l) rfl rfl (xei rfl rfl))
    refine ⟨σ, ?_, Nat.le_refl _, fun _ _ => rfl⟩
    unfold xc1 xaT
    show bnd (xcI [some (.ref r), some (.int s), some (.int l), some (.int z)] σ) _ = _
    unfold xcI
    have hv : xgP b e s l z = (decide (b = s) || ((decide (s < b) && decide (b < l)) || (decide (b = l) && decide (l = z)))) := if_neg h
    rw [xam (σ1 := σ) (xdw ht (by rw [decide_eq_false h]; rfl)) (xb8 (v := .bool (xgP b e s l z)) (fr1 := [some (.ref r), some (.int s), some (.int l), some (.int z)]) (σ1 := σ) (by unfold xcA; rw [hv, xaj (xmr c1 (xmr c2 c3))]))]
    rfl
end
section
open PySem
abbrev xcT (x0 : Option PV) (A : Adr) (h : Nat) (y5 y6 y7 y8 y9 y10 y11 y12 y13 : Option PV) : xa6 := [x0, some (.ref A.dk), some (.ref h), some (.ref A.ow), some (.ref A.ol), y5, y6, y7, y8, y9, y10, y11, y12, y13]
noncomputable def xn0 : xa6 → M (FR × xa6) := (xa5 (xb1 (xad xcW (xa1 (xa3 1) (xa1 (xa3 2) (xa1 (xa3 3) (xa1 (xa3 4) xa8)))))) xaC)
section
variable {σ σ' : St} {g g' : G} {t t' : T} {A : Adr} {j j' : Int} {w w' : Nat → Option (Int × Int × Bool)} {z z' : Bool} {nV nV' : Nat} {D : List (Int × PV)} {ol h : Nat} {x0 : Option PV}
theorem xkq : ∀ (l : List PV) {σ : St} {g : G} {t : T} {j : Int} (y5 : Option PV), Lw σ g t A j (xcb g) false g.N → g.hm = h → g.N + l.length ≤ 6 → j + 4 * l.length ≤ 800 →
    ∃ (σ' : St) (g' : G) (t' : T) (y5' : Option PV) (j' : Int), xeN 5 xn0 l (xcT x0 A h y5 none none none none none none none none) σ = some ((.next, xcT x0 A h y5' none none none none none none none none), σ') ∧ Lw σ' g' t' A j' (xcb g') false g'.N ∧ g'.hm = h ∧ g'.N = g.N + l.length ∧ j' ≤ j + 4 * l.length
  | [], σ, g, t, j, y5, H, hh, _, _ => ⟨σ, g, t, y5, j, rfl, H, hh, rfl, by simp⟩
  | v :: l, σ, g, t, j, y5, H, hh, hN, hj => by
    rw [List.length_cons] at hN hj
    obtain ⟨p, σ1, g1, t1, e1, H1, n1, m1⟩ := xp3 H (by omega) (by omega)
    obtain ⟨σ2, g2, t2, y5', j2, f1, f2, f3, f4, f5⟩ := xkq l (some v) H1 (m1.trans hh) (by omega) (by omega)
    refine ⟨σ2, g2, t2, y5', j2, ?_, f2, f3, by rw [List.length_cons]; omega, by rw [List.length_cons]; omega⟩
    show bnd (xn0 (xcT x0 A h (some v) none none none none none none none none) σ) _ = _
    have : xn0 (xcT x0 A h (some v) none none none none none none none none) σ = some ((.next, xcT x0 A h (some v) none none none none none none none none), σ1) := by
      unfold xn0
      exact xam (xbx (vs := [.ref A.dk, .ref h, .ref A.ow, .ref A.ol]) (σ0 := σ) rfl (by rw [← hh]; exact e1)) rfl
    rw [xaj this]
    exact f1
theorem xrt (H : Lw σ g t A j (xcb g) false g.N) (hh : g.hm = h) (hN : g.N = 0) (hj : j ≤ 100) :
    ∃ (σ' : St) (g' : G) (t' : T) (y5' : Option PV) (j' : Int), xeE 5 (xad xdE (xa1 (xbG xda (xaK 1) (xad xaF (xa1 (xa3 1) (xa1 (xaK 6) xa8)))) xa8)) xn0 (xcT x0 A h none none none none none none none none none) σ = some ((.next, xcT x0 A h y5' none none none none none none none none), σ') ∧ Lw σ' g' t' A j' (xcb g') false g'.N ∧ g'.hm = h ∧ 0 < g'.N ∧ j' ≤ j + 25 := by
  obtain ⟨d, σ1, c1, a1, b1, H1⟩ := xc5 H (m := 6) (by decide) (by omega) (xcT x0 A h none none none none none none none none none) 1 rfl (e := xaK 6) (fun _ => rfl)
  have hl : (xib 0 (1 + d)).length = (1 + d).toNat := by unfold xib; rw [List.length_map, List.length_range]; congr 1; omega
  obtain ⟨σ2, g2, t2, y5', j2, f1, f2, f3, f4, f5⟩ := xkq (h := h) (x0 := x0) (xib 0 (1 + d)) none H1 hh (by rw [hl]; omega) (by rw [hl]; omega)
  rw [hl] at f4 f5
  refine ⟨σ2, g2, t2, y5', j2, ?_, f2, f3, by omega, by omega⟩
  unfold xeE
  rw [xaj (xb2 (vs := [.int (1 + d)]) (σ0 := σ1) (xaR (xi7 (f := xda) (x := .int 1) rfl c1 rfl) xdo) (show xdE [.int (1 + d)] σ1 = some (.rng 0 (1 + d), σ1) from rfl))]
  have hi : xbo (.rng 0 (1 + d)) σ1 = some (xib 0 (1 + d), σ1) := by
    unfold xbo
    exact if_pos ⟨by omega, by omega, by omega, by omega⟩
  show (match xbo (.rng 0 (1 + d)) σ1 with | some (vs, σ2) => _ | none => none) = _
  rw [hi]
  exact f1
theorem xsC (H : Lw σ g t A j (xcb g) false g.N) (hh : g.hm = h) (hN : 0 < g.N) (hj : j ≤ 100) (y5 : Option PV) :
    ∃ (σ' : St) (g' : G) (t' : T) (j' : Int), sIf (xaP (xad xaF (xa1 (xa3 1) (xa1 (xaK 3) xa8))) (xai cEq (xaK 1))) (xa5 (xb1 (xad xdO (xa1 (xa3 1) (xa1 (xa3 2) (xa1 (xa3 3) xa8))))) xaC) xaC (xcT x0 A h y5 none none none none none none none none) σ = some ((.next, xcT x0 A h y5 none none none none none none none none), σ') ∧ Lw σ' g' t' A j' (xcb g') false g'.N ∧ g'.hm = h ∧ 0 < g'.N ∧ j' ≤ j + 3 := by
  obtain ⟨d, σ1, c1, a1, b1, H1⟩ := xc5 H (m := 3) (by decide) (by omega) (xcT x0 A h y5 none none none none none none none none) 1 rfl (e := xaK 3) (fun _ => rfl)
  have ht : xaP (xad xaF (xa1 (xa3 1) (xa1 (xaK 3) xa8))) (xai cEq (xaK 1)) (xcT x0 A h y5 none none none none none none none none) σ = some (decide (d = 1), σ1) := xfy c1 rfl
  by_cases q : d = 1
  · obtain ⟨p, σ2, g2, t2, e1, e2, e3, e4⟩ := xq0 H1 (by omega)
    refine ⟨σ2, g2, t2, j + 1 + 2, xdw ht (by rw [decide_eq_true q]; exact xam (xbx (vs := [.ref A.dk, .ref h, .ref A.ow]) (σ0 := σ1) rfl (by rw [← hh]; exact e1)) rfl), by rw [e3]; exact e2, e4.trans hh, by omega, by omega⟩
  · exact ⟨σ1, g, t, j + 1, xdw ht (by rw [decide_eq_false q]; rfl), H1, hh, hN, by omega⟩
theorem xrv (H : Lw σ g t A j (xcb g) false g.N) (hh : g.hm = h) (hN : 0 < g.N) (hj : j ≤ 100) (y5 : Option PV) :
    ∃ (σ' : St) (g' : G) (t' : T) (j' : Int), sIf (xaP (xad xaF (xa1 (xa3 1) (xa1 (xaK 3) xa8))) (xai cEq (xaK 1))) (xa5 (xb1 (xad xcS (xa1 (xa3 1) (xa1 (xa3 2) (xa1 (xa3 3) (xa1 (xa3 4) xa8)))))) xaC) xaC (xcT x0 A h y5 none none none none none none none none) σ = some ((.next, xcT x0 A h y5 none none none none none none none none), σ') ∧ Lw σ' g' t' A j' (xcb g') false g'.N ∧ g'.hm = h ∧ 0 < g'.N ∧ j' ≤ j + 4 := by
  obtain ⟨d, σ1, c1, a1, b1, H1⟩ := xc5 H (m := 3) (by decide) (by omega) (xcT x0 A h y5 none none none none none none none none) 1 rfl (e := xaK 3) (fun _ => rfl)
  have ht : xaP (xad xaF (xa1 (xa3 1) (xa1 (xaK 3) xa8))) (xai cEq (xaK 1)) (xcT x0 A h y5 none none none none none none none none) σ = some (decide (d = 1), σ1) := xfy c1 rfl
  by_cases q : d = 1
  · obtain ⟨p, σ2, g2, t2, e1, e2, e3, e4⟩ := xqa H1 (by omega) hN
    refine ⟨σ2, g2, t2, j + 1 + 3, xdw ht (by rw [decide_eq_true q]; exact xam (xbx (vs := [.ref A.dk, .ref h, .ref A.ow, .ref A.ol]) (σ0 := σ1) rfl (by rw [← hh]; exact e1)) rfl), e2, e4.trans hh, by omega, by omega⟩
  · exact ⟨σ1, g, t, j + 1, xdw ht (by rw [decide_eq_false q]; rfl), H1, hh, hN, by omega⟩
theorem xnQ (H : Lw σ g t A j w z nV) {a : xa6 → M PV} {fr : xa6} {σ0 : St} (ha : a fr σ0 = some (.ref g.od, σ)) : xad xbY (xa1 a xa8) fr σ0 = some (.ref σ.next, σ.push (.list ((xcr g.N g.lv).map .int))) := by
  obtain ⟨D, hD, hl, hs⟩ := H.ps.sort
  refine xb2 (vs := [.ref g.od]) (σ0 := σ) (xaR ha xdo) ?_
  have hk : xhH (.ref g.od) σ = some (D.map (·.1)) := by simp only [xhH, xc7, hD]
  unfold xbY
  dsimp only
  rw [hk]
  dsimp only
  rw [if_pos (by rw [List.length_map]; have := H.nN; omega), hs]
  exact if_pos (by rw [List.length_map]; have := xkt g.N g.lv; have := H.nN; omega)
theorem xsE {k : Nat} (hk : k < g.N) : (xcb g k).isSome = g.lv k := by
  have hh := @xes g k
  cases hl : g.lv k with
  | true => exact hh.mpr ⟨hk, hl⟩
  | false =>
    cases hs : (xcb g k).isSome with
    | false => rfl
    | true => have := (hh.mp hs).2; rw [hl] at this; cases this
theorem xsl (H : Lw σ g t A j (xcb g) z nV) (hh : g.hm = h) {y5 y6 y7 y8 y9 y10 y11 y12 y13 : Option PV} :
    ∃ σ', sIf (xaP (xad xbY (xa1 (xa9 xbf (xa3 2)) xa8)) (xai cNe (xad xbY (xa1 (xa3 3) xa8)))) (xa5 (xcA (xch false)) xaC) xaC (xcT x0 A h y5 y6 y7 y8 y9 y10 y11 y12 y13) σ = some ((.next, xcT x0 A h y5 y6 y7 y8 y9 y10 y11 y12 y13), σ') ∧ Lw σ' g t A j (xcb g) z nV := by
  have hhome := H.ps.home
  rw [hh] at hhome
  have h1 := xnQ H (a := xa9 xbf (xa3 2)) (fr := xcT x0 A h y5 y6 y7 y8 y9 y10 y11 y12 y13) (σ0 := σ) (xd4 (i := h) rfl hhome rfl rfl)
  generalize hσ1 : σ.push (.list ((xcr g.N g.lv).map .int)) = σ1 at h1
  have H1 : Lw σ1 g t A j (xcb g) z nV := H.quiet (by rw [← hσ1]; exact Nat.le_succ _) (fun a ha => by rw [← hσ1]; exact if_neg (by omega))
  have h2 := xhO H1 (a := xa3 3) (fr := xcT x0 A h y5 y6 y7 y8 y9 y10 y11 y12 y13) (σ0 := σ1) rfl
  generalize hσ2 : σ1.push (.list ((xcr g.N (fun k => (xcb g k).isSome)).map .int)) = σ2 at h2
  have x1 : σ1.next = σ.next + 1 := by rw [← hσ1]; rfl
  have ht := xoN (ks := xcr g.N g.lv) (ls := xcr g.N (fun k => (xcb g k).isSome)) h1 h2 (by
    rw [← hσ2]
    show (if σ.next = σ1.next then _ else σ1.objs σ.next) = _
    rw [if_neg (by omega), ← hσ1]
    exact if_pos rfl) (by rw [← hσ2]; exact if_pos rfl)
  rw [xmM (p := g.lv) (q := fun k => (xcb g k).isSome) (fun k hk => (xsE hk).symm), decide_eq_true rfl] at ht
  exact ⟨σ2, xdw ht rfl, H1.quiet (by rw [← hσ2]; exact Nat.le_succ _) (fun a ha => by rw [← hσ2]; exact if_neg (by omega))⟩
noncomputable def xmN : xa6 → M (FR × xa6) := (xa5 (sIf (xaP (xc8 (xa1 (xad xbt (xa1 (xbE (xa3 4) (xa3 6)) xa8)) (xa1 (xad xbR (xa1 (xbE (xa3 4) (xa3 6)) xa8)) xa8))) (xai cNe (xhQ 2 (xbE (xa3 3) (xa3 6))))) (xa5 (xcA (xch false)) xaC) xaC) xaC)
theorem xoJ {a : xa6 → M PV} {fr : xa6} {σ0 σ : St} {r : Nat} {vs : List PV} {n : Nat} (ha : a fr σ0 = some (.ref r, σ)) (hr : σ.objs r = .list vs) (hl : vs.length ≤ 1000) : xhQ n a fr σ0 = some (.ref σ.next, σ.push (.list (vs.take n))) := by
  unfold xhQ
  rw [xaj ha]
  have : xid n (.ref r) σ = some (vs.take n) := by
    simp only [xid, xc7, hr]
    rw [if_pos (by omega)]
    simp
  rw [this]
  exact if_pos (by rw [List.length_take]; omega)
theorem xje {k : Nat} (hk : k < g.N) (hl : g.lv k = true) : xcb g k = some (g.B k, g.E k, g.fl k) := if_pos ⟨hk, hl⟩
theorem Lw.prog0 (H : Lw σ g t A j w z nV) (P : PS σ' g t') (U : Unt g σ σ') : Lw σ' g t' A j w z nV := H.prog P U (fun _ _ => rfl) (fun a ha => H.fr a (Nat.le_trans U.next ha)) (Nat.le_refl _) H.nN (fun _ _ => rfl)
theorem Lw.over (H : Lw σ g t A j w z g.N) {k : Nat} (hk : k < g.N) {a b : xa6 → M PV} {fr : xa6} {σ0 σ1 : St} (ha : a fr σ0 = some (.ref A.ol, σ1)) (hb : b fr σ1 = some (.int k, σ)) : xbE a b fr σ0 = some (.ref (g.ov k), σ) :=
  xd2 (i := k) ha hb H.ol (by rw [List.getElem?_map, List.getElem?_range hk]; rfl)
theorem xs9 (H : Lw σ g t A j (xcb g) true g.N) {k : Nat} (hk : k < g.N) (hl : g.lv k = true) {y5 : Option PV} :
    ∃ σ' t', xmN (xcT x0 A h y5 (some (.int k)) none none none none none none none) σ = some ((.next, xcT x0 A h y5 (some (.int k)) none none none none none none none), σ') ∧ Lw σ' g t' A j (xcb g) true g.N := by
  obtain ⟨σ1, t1, b1, b2, b3⟩ := xku H.ps hk hl
  have H1 := H.prog0 b2 b3
  obtain ⟨σ2, t2, e1, e2, e3⟩ := xov H1.ps hk hl
  have H2 := H1.prog0 e2 e3
  have c1 : xad xbt (xa1 (xbE (xa3 4) (xa3 6)) xa8) (xcT x0 A h y5 (some (.int k)) none none none none none none none) σ = some (.int (g.B k), σ1) := xb2 (vs := [.ref (g.ov k)]) (σ0 := σ) (xaR (H.over hk rfl rfl) xdo) b1
  have c2 : xad xbR (xa1 (xbE (xa3 4) (xa3 6)) xa8) (xcT x0 A h y5 (some (.int k)) none none none none none none none) σ1 = some (.int (g.E k), σ2) := xb2 (vs := [.ref (g.ov k)]) (σ0 := σ1) (xaR (H1.over hk rfl rfl) xdo) e1
  have c3 := xgv (xaR c1 (xaR c2 xdo)) (by show 2 ≤ 1000; decide)
  generalize hσ3 : σ2.push (.list [.int (g.B k), .int (g.E k)]) = σ3 at c3
  have x3 : σ3.next = σ2.next + 1 := by rw [← hσ3]; rfl
  have H3 : Lw σ3 g t2 A j (xcb g) true g.N := H2.quiet (by omega) (fun a ha => by rw [← hσ3]; exact if_neg (by omega))
  obtain ⟨r, r1, r2, r3, r4, r5⟩ := H3.read (xje hk hl) (a := xa3 3) (ie := xa3 6) (fr := xcT x0 A h y5 (some (.int k)) none none none none none none none) (σ0 := σ3) (σ1 := σ3) rfl rfl
  have c4 := xoJ (n := 2) r1 r5 (by show 3 ≤ 1000; decide)
  generalize hσ4 : σ3.push (.list (([.int (g.B k), .int (g.E k), .bool (g.fl k)] : List PV).take 2)) = σ4 at c4
  have ht := xoN (ks := [g.B k, g.E k]) (ls := [g.B k, g.E k]) c3 c4 (by
    rw [← hσ4]
    show (if σ2.next = σ3.next then _ else σ3.objs σ2.next) = _
    rw [if_neg (by omega), ← hσ3]
    exact if_pos rfl) (by rw [← hσ4]; exact if_pos rfl)
  rw [decide_eq_true rfl] at ht
  refine ⟨σ4, t2, ?_, H3.quiet (by rw [← hσ4]; exact Nat.le_succ _) (fun a ha => by rw [← hσ4]; exact if_neg (by omega))⟩
  unfold xmN
  exact xam (xdw ht rfl) rfl
theorem xqm : ∀ (l : List PV) {σ : St} {t : T} (y5 y6 : Option PV), Lw σ g t A j (xcb g) true g.N → (∀ v ∈ l, ∃ k : Nat, v = .int k ∧ k < g.N ∧ g.lv k = true) →
    ∃ σ' t' y6', xeN 6 xmN l (xcT x0 A h y5 y6 none none none none none none none) σ = some ((.next, xcT x0 A h y5 y6' none none none none none none none), σ') ∧ Lw σ' g t' A j (xcb g) true g.N
  | [], σ, t, y5, y6, H, _ => ⟨σ, t, y6, rfl, H⟩
  | v :: l, σ, t, y5, y6, H, hL => by
    obtain ⟨k, rfl, h1, h2⟩ := hL v (List.mem_cons_self ..)
    obtain ⟨σ1, t1, e1, e2⟩ := xs9 (h := h) (x0 := x0) H h1 h2 (y5 := y5)
    obtain ⟨σ2, t2, y6', f1, f2⟩ := xqm l y5 (some (.int k)) e2 (fun v hv => hL v (List.mem_cons_of_mem _ hv))
    refine ⟨σ2, t2, y6', ?_, f2⟩
    show bnd (xmN (xcT x0 A h y5 (some (.int k)) none none none none none none none) σ) _ = _
    rw [xaj e1]
    exact f1
theorem Lw.keys (H : Lw σ g t A j (xcb g) z nV) : ∃ l σ', xbo (.ref A.ow) σ = some (l, σ') ∧ Lw σ' g t A j (xcb g) true nV ∧ l.length ≤ 6 ∧ (∀ v ∈ l, ∃ k : Nat, v = .int k ∧ k < g.N ∧ g.lv k = true) ∧ (∀ k : Nat, k < g.N → g.lv k = true → PV.int k ∈ l) ∧ σ'.next = σ.next ∧ (∀ a, a ≠ A.ow → σ'.objs a = σ.objs a) ∧ (z = true → σ' = σ) := by
  have q1 := H.o1
  have q2 := H.o2
  have q3 := H.o3
  have q4 := H.o4
  obtain ⟨D, hD, hO⟩ := H.own
  have hl := H.dlen hO
  have k1 : ∀ v ∈ D.map (fun kv => PV.int kv.1), ∃ k : Nat, v = .int k ∧ k < g.N ∧ g.lv k = true := fun v hv => by
    obtain ⟨kv, hkv, rfl⟩ := List.mem_map.mp hv
    obtain ⟨k, e1, e2⟩ := hO.mem kv hkv
    have := xes.mp e2
    exact ⟨k, by rw [e1], this.1, this.2⟩
  have k2 : ∀ k : Nat, k < g.N → g.lv k = true → PV.int k ∈ D.map (fun kv => PV.int kv.1) := fun k h1 h2 => by
    obtain ⟨r, hr, _⟩ := hO.get k _ _ _ (xje h1 h2)
    exact List.mem_map.mpr ⟨_, xlk hr, rfl⟩
  cases z
  · have hD' : σ.objs A.ow = .dict D := hD
    refine ⟨D.map (fun kv => PV.int kv.1), σ.set A.ow (.fdict D), by simp only [xbo, hD'], H.turn (Nat.le_refl _) (fun a _ _ h _ => by rw [xao, if_neg h]) (by rw [xao, if_neg (by omega)]; exact H.dk) H.j0 ⟨D, if_pos rfl, hO.mono (fun _ _ => rfl) (Nat.le_refl _) (Nat.le_refl _) (fun a _ h _ => by rw [xao, if_neg (by omega)])⟩ (by rw [xao, if_neg (by omega)]; exact H.ol) H.nV, by rw [List.length_map]; exact hl, k1, k2, rfl, fun a ha => by rw [xao, if_neg ha], (fun q => by cases q)⟩
  · have hD' : σ.objs A.ow = .fdict D := hD
    exact ⟨D.map (fun kv => PV.int kv.1), σ, by simp only [xbo, hD'], H, by rw [List.length_map]; exact hl, k1, k2, rfl, fun _ _ => rfl, fun _ => rfl⟩
theorem xpF (H : Lw σ g t A j (xcb g) z g.N) (y5 : Option PV) :
    ∃ σ' t' y6', xeE 6 (xa3 3) xmN (xcT x0 A h y5 none none none none none none none none) σ = some ((.next, xcT x0 A h y5 y6' none none none none none none none), σ') ∧ Lw σ' g t' A j (xcb g) true g.N := by
  obtain ⟨l, σ1, i1, H1, _, k1, _⟩ := H.keys
  obtain ⟨σ2, t2, y6', f1, f2⟩ := xqm (h := h) (x0 := x0) l y5 none H1 k1
  refine ⟨σ2, t2, y6', ?_, f2⟩
  unfold xeE
  show (match xbo (.ref A.ow) σ with | some (vs, σ2) => _ | none => none) = _
  rw [i1]
  exact f1
end
end
section
open PySem
section
variable {σ σ' σ0 : St} {g g' : G} {t t' : T} {A : Adr} {j j' : Int} {w w' : Nat → Option (Int × Int × Bool)} {z z' : Bool} {nV nV' : Nat} {D : List (Int × PV)} {ol h : Nat} {x0 y5 y6 : Option PV}
theorem xqI (H : Lw σ g t A j w z nV) (hj : j ≤ 100) : ∃ (a s : Int) (σ' : St), xcy [7, 8] (xeJ (xa1 (xad xaF (xa1 (xa3 1) (xa1 (xaK 16) xa8))) (xa1 (xad xaF (xa1 (xa3 1) (xa1 (xaK 16) xa8))) xa8))) (xcT x0 A h y5 y6 none none none none none none none) σ = some ((.next, xcT x0 A h y5 y6 (some (.int a)) (some (.int s)) none none none none none), σ') ∧ Lw σ' g t A (j + 2) w z nV ∧ 0 ≤ a ∧ a < 16 ∧ 0 ≤ s ∧ s < 16 := by
  obtain ⟨a, σ1, c1, a1, b1, H1⟩ := xc5 H (m := 16) (by decide) (by omega) (xcT x0 A h y5 y6 none none none none none none none) 1 rfl (e := xaK 16) (fun _ => rfl)
  obtain ⟨s, σ2, c2, a2, b2, H2⟩ := xc5 H1 (m := 16) (by decide) (by omega) (xcT x0 A h y5 y6 none none none none none none none) 1 rfl (e := xaK 16) (fun _ => rfl)
  have hj2 : j + 1 + 1 = j + 2 := by omega
  rw [hj2] at H2
  exact ⟨a, s, σ2, xdF (xhZ (xaR c1 (xaR c2 xdo)) (by show 2 ≤ 1000; decide)) rfl, H2, a1, b1, a2, b2⟩
theorem xqS (H : Lw σ g t A j w z nV) (hj : j ≤ 100) {a s : Int} (hs0 : 0 ≤ s) (hs : s < 16) : ∃ (l e : Int) (σ' : St), xcy [9, 10] (xeJ (xa1 (xbG xda (xa3 8) (xad xaF (xa1 (xa3 1) (xa1 (xbG xhc (xaK 17) (xa3 8)) xa8)))) (xa1 (xbG xhc (xaK 16) (xad xaF (xa1 (xa3 1) (xa1 (xaK 2) xa8)))) xa8))) (xcT x0 A h y5 y6 (some (.int a)) (some (.int s)) none none none none none) σ = some ((.next, xcT x0 A h y5 y6 (some (.int a)) (some (.int s)) (some (.int l)) (some (.int e)) none none none), σ') ∧ Lw σ' g t A (j + 2) w z nV ∧ s ≤ l ∧ l ≤ 100 := by
  obtain ⟨d, σ1, c1, a1, b1, H1⟩ := xc5 H (m := 17 - s) (by omega) (by omega) (xcT x0 A h y5 y6 (some (.int a)) (some (.int s)) none none none none none) 1 rfl (e := xbG xhc (xaK 17) (xa3 8)) (fun _ => rfl)
  obtain ⟨d2, σ2, c2, a2, b2, H2⟩ := xc5 H1 (m := 2) (by decide) (by omega) (xcT x0 A h y5 y6 (some (.int a)) (some (.int s)) none none none none none) 1 rfl (e := xaK 2) (fun _ => rfl)
  have hj2 : j + 1 + 1 = j + 2 := by omega
  rw [hj2] at H2
  exact ⟨s + d, 16 - d2, σ2, xdF (xhZ (xaR (xi7 (f := xda) (x := .int s) rfl c1 rfl) (xaR (xi7 (f := xhc) (x := .int 16) rfl c2 rfl) xdo)) (by show 2 ≤ 1000; decide)) rfl, H2, by omega, by omega⟩
theorem xu0 (H : Lw σ g t A j (xcb g) z nV) (hh : g.hm = h) {a : Int} {y8 y9 y10 y11 y12 y13 : Option PV} :
    ∃ σ' t', sIf (xaP (xad xbY (xa1 (xdg [false, false, false, false, false, false, false, false, false, false, false, false, false, false] (xad xcH (xa1 (xa3 2) (xa1 (xa3 7) xa8))) xbV (xa9 xb6 (xa3 0))) xa8)) (xai cNe (xdg [false, false, false, true, false, false, false, true, false, false, false, false, false, false] (xad xbY (xa1 (xa3 3) xa8)) (xaP (xbE (xbE (xa3 4) (xa3 0)) (xaK 0)) (xbQ cLe (xa3 8) (xai cLt (xbE (xbE (xa3 4) (xa3 0)) (xaK 1))))) (xa3 0)))) (xa5 (xcA (xch false)) xaC) xaC (xcT x0 A h y5 y6 (some (.int a)) y8 y9 y10 y11 y12 y13) σ = some ((.next, xcT x0 A h y5 y6 (some (.int a)) y8 y9 y10 y11 y12 y13), σ') ∧ Lw σ' g t' A j (xcb g) z nV := by
  obtain ⟨r0, σ1, t1, L, e1, e2, e3, e4, e5, e6, e7, e8, e9⟩ := xsj H.ps a
  obtain ⟨r, σ2, s1, s2, H2, s4⟩ := xoP H (c := xad xcH (xa1 (xa3 2) (xa1 (xa3 7) xa8))) (fr := xcT x0 A h y5 y6 (some (.int a)) y8 y9 y10 y11 y12 y13) (keep := [false, false, false, false, false, false, false, false, false, false, false, false, false, false]) (p := fun k => g.lv k && (decide (g.B k ≤ a) && decide (a < g.E k))) (xb2 (vs := [.ref h, .int a]) (σ0 := σ) rfl (by rw [← hh]; exact e1)) e2 e3 e4 e5 e6 e7 e8 (fun k => by
    rw [e9]
    simp only [Bool.and_eq_true, decide_eq_true_eq])
  obtain ⟨r', σ3, u1, u2, H3, u4⟩ := xoT H2 (a := xa3 3) (keep := [false, false, false, true, false, false, false, true, false, false, false, false, false, false]) (tst := xaP (xbE (xbE (xa3 4) (xa3 0)) (xaK 0)) (xbQ cLe (xa3 8) (xai cLt (xbE (xbE (xa3 4) (xa3 0)) (xaK 1))))) (fr := xcT x0 A h y5 y6 (some (.int a)) y8 y9 y10 y11 y12 y13) rfl (fun k => decide (g.B k ≤ a) && decide (a < g.E k)) (fun k hk hl σ1 H1 => by
    obtain ⟨r, r1, r2, r3, r4, r5⟩ := H1.read (xje hk hl) (a := xa3 4) (ie := xa3 0) (fr := some (.int k) :: xeO [false, false, false, true, false, false, false, true, false, false, false, false, false, false] (xcT x0 A h y5 y6 (some (.int a)) y8 y9 y10 y11 y12 y13)) (σ0 := σ1) (σ1 := σ1) rfl rfl
    exact ⟨σ1, xfy (xd2 (i := 0) r1 rfl r5 rfl) (xeP (σ2 := σ1) (y := .int a) rfl rfl (xei (xd2 (i := 1) r1 rfl r5 rfl) rfl)), Nat.le_refl _, fun _ _ => rfl⟩)
  have ht := xoN s1 u1 ((u4 r s4).trans s2) u2
  rw [decide_eq_true rfl] at ht
  exact ⟨σ3, t1, xdw ht rfl, H3⟩
theorem xtO (H : Lw σ g t A j (xcb g) z nV) (hh : g.hm = h) {s l e : Int} (hs : 0 ≤ s) (hsl : s ≤ l) (hl : l ≤ 100) {y7 y11 y12 y13 : Option PV} :
    ∃ σ' t', sIf (xaP (xad xbY (xa1 (xdg [false, false, false, false, false, false, false, false, false, false, false, false, false, false] (xad xcE (xa1 (xa3 2) (xa1 (xa3 8) (xa1 (xa3 9) (xa1 (xa3 10) xa8))))) xbV (xa9 xb6 (xa3 0))) xa8)) (xai cNe (xdg [false, false, false, true, false, false, false, false, true, true, true, false, false, false] (xad xbY (xa1 (xa3 3) xa8)) (xbe (xad xc1 (xa1 (xbE (xa3 4) (xa3 0)) (xa1 (xa3 9) (xa1 (xa3 10) (xa1 (xa3 11) xa8)))))) (xa3 0)))) (xa5 (xcA (xch false)) xaC) xaC (xcT x0 A h y5 y6 y7 (some (.int s)) (some (.int l)) (some (.int e)) y11 y12 y13) σ = some ((.next, xcT x0 A h y5 y6 y7 (some (.int s)) (some (.int l)) (some (.int e)) y11 y12 y13), σ') ∧ Lw σ' g t' A j (xcb g) z nV := by
  obtain ⟨r0, σ1, t1, L, e1, e2, e3, e4, e5, e6, e7, e8, e9⟩ := xso H.ps s l e
  have hcan : ∀ k, k < g.N → g.lv k = true → (xgP (g.B k) (g.E k) s l e = true ↔ inP s l (decide (l = e)) (g.it k) = true ∧ nbP s l (g.it k) = true) := fun k hk hlv => xqA hsl (H.ps.be k hk hlv)
  obtain ⟨r, σ2, s1, s2, H2, s4⟩ := xoP H (c := xad xcE (xa1 (xa3 2) (xa1 (xa3 8) (xa1 (xa3 9) (xa1 (xa3 10) xa8))))) (fr := xcT x0 A h y5 y6 y7 (some (.int s)) (some (.int l)) (some (.int e)) y11 y12 y13) (keep := [false, false, false, false, false, false, false, false, false, false, false, false, false, false]) (p := fun k => g.lv k && xgP (g.B k) (g.E k) s l e) (xb2 (vs := [.ref h, .int s, .int l, .int e]) (σ0 := σ) rfl (by rw [← hh]; exact e1)) e2 e3 e4 e5 e6 e7 e8 (fun k => by
    rw [e9, Bool.and_eq_true]
    constructor
    · rintro ⟨a1, a2, a3⟩; exact ⟨a1, a2, (hcan k a1 a2).mpr a3⟩
    · rintro ⟨a1, a2, a3⟩; exact ⟨a1, a2, (hcan k a1 a2).mp a3⟩)
  obtain ⟨r', σ3, u1, u2, H3, u4⟩ := xoT H2 (a := xa3 3) (keep := [false, false, false, true, false, false, false, false, true, true, true, false, false, false]) (tst := xbe (xad xc1 (xa1 (xbE (xa3 4) (xa3 0)) (xa1 (xa3 9) (xa1 (xa3 10) (xa1 (xa3 11) xa8)))))) (fr := xcT x0 A h y5 y6 y7 (some (.int s)) (some (.int l)) (some (.int e)) y11 y12 y13) rfl (fun k => xgP (g.B k) (g.E k) s l e) (fun k hk hlv σ1 H1 => by
    obtain ⟨r, r1, r2, r3, r4, r5⟩ := H1.read (xje hk hlv) (a := xa3 4) (ie := xa3 0) (fr := some (.int k) :: xeO [false, false, false, true, false, false, false, false, true, true, true, false, false, false] (xcT x0 A h y5 y6 y7 (some (.int s)) (some (.int l)) (some (.int e)) y11 y12 y13)) (σ0 := σ1) (σ1 := σ1) rfl rfl
    obtain ⟨σ2, c1, c2, c3⟩ := xp0 (s := s) (l := l) (z := e) r5 r3 hs (by omega) hsl
    refine ⟨σ2, ?_, c2, c3⟩
    unfold xbe
    rw [xaj (xb2 (vs := [.ref r, .int s, .int l, .int e]) (σ0 := σ1) (xaR r1 rfl) c1)]
    rfl)
  have ht := xoN s1 u1 ((u4 r s4).trans s2) u2
  rw [decide_eq_true rfl] at ht
  exact ⟨σ3, t1, xdw ht rfl, H3⟩
end
end
section
open PySem
theorem xs1 (l : List Int) (d : Int) : ∃ m, (l ++ [d]).min? = some m ∧ m ∈ l ++ [d] ∧ ∀ x ∈ l ++ [d], m ≤ x := by
  cases h : (l ++ [d]).min? with
  | none =>
    rw [List.min?_eq_none_iff] at h
    simp at h
  | some m =>
    have := List.min?_eq_some_iff.mp h
    exact ⟨m, rfl, this.1, this.2⟩
theorem xrU (l : List Int) (d : Int) : ∃ m, (l ++ [d]).max? = some m ∧ m ∈ l ++ [d] ∧ ∀ x ∈ l ++ [d], x ≤ m := by
  cases h : (l ++ [d]).max? with
  | none =>
    rw [List.max?_eq_none_iff] at h
    simp at h
  | some m =>
    have := List.max?_eq_some_iff.mp h
    exact ⟨m, rfl, this.1, this.2⟩
noncomputable def xn5 : xa6 → M (FR × xa6) := (xa5 (xb1 (xcs isL xjC (xa3 11) (xhQ 2 (xbE (xa3 3) (xa3 6))))) xaC)
section
variable {σ σ' σ0 : St} {g g' : G} {t t' : T} {A : Adr} {j j' : Int} {w w' : Nat → Option (Int × Int × Bool)} {z z' : Bool} {nV nV' : Nat} {D : List (Int × PV)} {ol h : Nat} {x0 y5 y6 : Option PV}
structure Ex (σ0 σ : St) (pr : Nat) (ks : List Int) : Prop where
  old : ∀ a, a < σ0.next → σ.objs a = σ0.objs a
  lo : σ0.next ≤ pr
  hi : pr < σ.next
  pr : σ.objs pr = .list (ks.map .int)
theorem Ex.lw {p : Nat} {ks : List Int} (X : Ex σ0 σ p ks) (H : Lw σ0 g t A j w z nV) : Lw σ g t A j w z nV := H.quiet (by have := X.lo; have := X.hi; omega) X.old
theorem xs3 (H : Lw σ0 g t A j (xcb g) true nV) {pr : Nat} {ks : List Int} (X : Ex σ0 σ pr ks) (hz : ks.length ≤ 100) {k : Nat} (hk : k < g.N) (hl : g.lv k = true) {y7 y8 y9 y10 y12 y13 : Option PV} :
    ∃ σ', xn5 (xcT x0 A h y5 (some (.int k)) y7 y8 y9 y10 (some (.ref pr)) y12 y13) σ = some ((.next, xcT x0 A h y5 (some (.int k)) y7 y8 y9 y10 (some (.ref pr)) y12 y13), σ') ∧ Ex σ0 σ' pr (ks ++ [g.B k, g.E k]) := by
  have H1 := X.lw H
  obtain ⟨r, r1, r2, r3, r4, r5⟩ := H1.read (xje hk hl) (a := xa3 3) (ie := xa3 6) (fr := xcT x0 A h y5 (some (.int k)) y7 y8 y9 y10 (some (.ref pr)) y12 y13) (σ0 := σ) (σ1 := σ) rfl rfl
  have c4 := xoJ (n := 2) r1 r5 (by show 3 ≤ 1000; decide)
  generalize hσ1 : σ.push (.list (([.int (g.B k), .int (g.E k), .bool (g.fl k)] : List PV).take 2)) = σ1 at c4
  have x1 : σ1.next = σ.next + 1 := by rw [← hσ1]; rfl
  have o1 : ∀ a, a < σ.next → σ1.objs a = σ.objs a := fun a ha => by rw [← hσ1]; exact if_neg (by omega)
  have n1 : σ1.objs σ.next = .list [.int (g.B k), .int (g.E k)] := by rw [← hσ1]; exact if_pos rfl
  have xl := X.lo
  have xh := X.hi
  have p1 : σ1.objs pr = .list (ks.map .int) := (o1 pr xh).trans X.pr
  refine ⟨σ1.set pr (.list (ks.map .int ++ [.int (g.B k), .int (g.E k)])), ?_, ⟨fun a ha => ?_, xl, by show pr < σ1.next; omega, ?_⟩⟩
  · unfold xn5
    refine xam ?_ rfl
    unfold xb1
    rw [xaj (a := .none) (σ := σ1.set pr (.list (ks.map .int ++ [.int (g.B k), .int (g.E k)])))]
    unfold xcs
    show bnd (some (PV.ref pr, σ)) _ = _
    show (if isL (.ref pr) σ = true then _ else _) = _
    rw [if_pos (by unfold isL; simp only [X.pr]), xaj (show xhQ 2 (xbE (xa3 3) (xa3 6)) (xcT x0 A h y5 (some (.int k)) y7 y8 y9 y10 (some (.ref pr)) y12 y13) σ = some (.ref σ.next, σ1) from c4)]
    simp only [xjC, p1, xc7, n1]
    rw [if_pos (by rw [List.length_map]; show ks.length + 2 ≤ 1000; omega)]
  · rw [xao, if_neg (by omega), o1 a (by omega)]; exact X.old a ha
  · rw [xao, if_pos rfl, List.map_append]; rfl
theorem xq8 (H : Lw σ0 g t A j (xcb g) true nV) {pr : Nat} {y7 y8 y9 y10 y12 y13 : Option PV} : ∀ (l : List PV) {σ : St} {ks : List Int} (y6 : Option PV), Ex σ0 σ pr ks → ks.length + 2 * l.length ≤ 100 → (∀ v ∈ l, ∃ k : Nat, v = .int k ∧ k < g.N ∧ g.lv k = true) →
    ∃ σ' y6' ks', xeN 6 xn5 l (xcT x0 A h y5 y6 y7 y8 y9 y10 (some (.ref pr)) y12 y13) σ = some ((.next, xcT x0 A h y5 y6' y7 y8 y9 y10 (some (.ref pr)) y12 y13), σ') ∧ Ex σ0 σ' pr ks' ∧ ks'.length ≤ ks.length + 2 * l.length ∧ ∀ x, x ∈ ks' ↔ x ∈ ks ∨ ∃ k : Nat, PV.int k ∈ l ∧ (x = g.B k ∨ x = g.E k)
  | [], σ, ks, y6, X, _, _ => ⟨σ, y6, ks, rfl, X, by omega, fun x => ⟨.inl, fun q => by
      rcases q with q | ⟨k, q, _⟩
      · exact q
      · cases q⟩⟩
  | v :: l, σ, ks, y6, X, hz, hL => by
    rw [List.length_cons] at hz
    obtain ⟨k, rfl, h1, h2⟩ := hL v (List.mem_cons_self ..)
    obtain ⟨σ1, e1, X1⟩ := xs3 (h := h) (x0 := x0) (y5 := y5) (y7 := y7) (y8 := y8) (y9 := y9) (y10 := y10) (y12 := y12) (y13 := y13) H X (by omega) h1 h2
    have hlen : (ks ++ [g.B k, g.E k]).length = ks.length + 2 := by rw [List.length_append]; rfl
    obtain ⟨σ2, y6', ks', f1, f2, f3, f4⟩ := xq8 H l (some (.int k)) X1 (by omega) (fun v hv => hL v (List.mem_cons_of_mem _ hv))
    refine ⟨σ2, y6', ks', ?_, f2, by rw [List.length_cons]; omega, fun x => ?_⟩
    · show bnd (xn5 (xcT x0 A h y5 (some (.int k)) y7 y8 y9 y10 (some (.ref pr)) y12 y13) σ) _ = _
      rw [xaj e1]
      exact f1
    · rw [f4, List.mem_append]
      constructor
      · rintro ((q | q) | ⟨i, q1, q2⟩)
        · exact .inl q
        · refine .inr ⟨k, List.mem_cons_self .., ?_⟩
          simpa using q
        · exact .inr ⟨i, List.mem_cons_of_mem _ q1, q2⟩
      · rintro (q | ⟨i, q1, q2⟩)
        · exact .inl (.inl q)
        · rcases List.mem_cons.mp q1 with q1 | q1
          · have : i = k := by
              have := PV.int.inj q1
              omega
            subst this
            exact .inl (.inr (by simpa using q2))
          · exact .inr ⟨i, q1, q2⟩
theorem xsA (H : Lw σ g t A j (xcb g) true nV) {y7 y8 y9 y10 y11 y12 y13 : Option PV} :
    ∃ σ1 σ' y6' ks pr, xak 11 (xc8 xa8) (xcT x0 A h y5 y6 y7 y8 y9 y10 y11 y12 y13) σ = some ((.next, xcT x0 A h y5 y6 y7 y8 y9 y10 (some (.ref pr)) y12 y13), σ1) ∧ xeE 6 (xa3 3) xn5 (xcT x0 A h y5 y6 y7 y8 y9 y10 (some (.ref pr)) y12 y13) σ1 = some ((.next, xcT x0 A h y5 y6' y7 y8 y9 y10 (some (.ref pr)) y12 y13), σ') ∧ Ex σ σ' pr ks ∧ ks.length ≤ 100 ∧ ∀ x, x ∈ ks ↔ ∃ k, k < g.N ∧ g.lv k = true ∧ (x = g.B k ∨ x = g.E k) := by
  generalize hσ1 : σ.push (.list []) = σ1
  have x1 : σ1.next = σ.next + 1 := by rw [← hσ1]; rfl
  have X1 : Ex σ σ1 σ.next [] := ⟨fun a ha => by rw [← hσ1]; exact if_neg (by omega), Nat.le_refl _, by omega, by rw [← hσ1]; exact if_pos rfl⟩
  have H1 := X1.lw H
  obtain ⟨l, σ2, i1, H2, i2, k1, k2, i3, i4, i5⟩ := H1.keys
  have i5 := i5 rfl
  subst i5
  obtain ⟨σ3, y6', ks, f1, f2, f3, f4⟩ := xq8 (h := h) (x0 := x0) (y5 := y5) (y7 := y7) (y8 := y8) (y9 := y9) (y10 := y10) (y12 := y12) (y13 := y13) H l y6 X1 (by show 0 + 2 * l.length ≤ 100; omega) k1
  refine ⟨σ2, σ3, y6', ks, σ.next, ?_, ?_, f2, by have : ([] : List Int).length = 0 := rfl; omega, fun x => ?_⟩
  · rw [← hσ1]; rfl
  · unfold xeE
    show (match xbo (.ref A.ow) σ2 with | some (vs, σ2) => _ | none => none) = _
    rw [i1]
    exact f1
  · rw [f4]
    constructor
    · rintro (q | ⟨k, q1, q2⟩)
      · cases q
      · obtain ⟨i, e1, e2, e3⟩ := k1 _ q1
        have : k = i := by
          have := PV.int.inj e1
          omega
        subst this
        exact ⟨k, e2, e3, q2⟩
    · rintro ⟨k, q1, q2, q3⟩
      exact .inr ⟨k, k2 k q1 q2, q3⟩
theorem xpC {a b : xa6 → M PV} {fr : xa6} {σ σ1 σ2 : St} {r1 r2 : Nat} {ks ls : List Int} (ha : a fr σ = some (.ref r1, σ1)) (hb : b fr σ1 = some (.ref r2, σ2)) (h1 : σ2.objs r1 = .list (ks.map .int)) (h2 : σ2.objs r2 = .list (ls.map .int)) (hz : ks.length + ls.length ≤ 1000) : xbG xpl a b fr σ = some (.ref σ2.next, σ2.push (.list ((ks ++ ls).map .int))) := by
  refine xi7 ha hb ?_
  simp only [xpl, h1, h2]
  rw [List.map_append]
  exact if_pos (by rw [List.length_append, List.length_map, List.length_map]; exact hz)
end
end
section
open PySem
theorem xr6 {a : xa6 → M PV} {fr : xa6} {σ σ1 : St} {r : Nat} {ks : List Int} {m : Int} (ha : a fr σ = some (.ref r, σ1)) (hr : σ1.objs r = .list (ks.map .int)) (hm : ks.min? = some m) : xad xnl (xa1 a xa8) fr σ = some (.int m, σ1) := by
  refine xb2 (vs := [.ref r]) (σ0 := σ1) (xaR ha xdo) ?_
  have : (xc7 (.ref r) σ1).bind xf3 = some ks := by
    simp only [xc7, hr, Option.bind, xdL]
  unfold xnl
  dsimp only
  rw [this]
  dsimp only
  rw [hm]
theorem xry {a : xa6 → M PV} {fr : xa6} {σ σ1 : St} {r : Nat} {ks : List Int} {m : Int} (ha : a fr σ = some (.ref r, σ1)) (hr : σ1.objs r = .list (ks.map .int)) (hm : ks.max? = some m) : xad xnv (xa1 a xa8) fr σ = some (.int m, σ1) := by
  refine xb2 (vs := [.ref r]) (σ0 := σ1) (xaR ha xdo) ?_
  have : (xc7 (.ref r) σ1).bind xf3 = some ks := by
    simp only [xc7, hr, Option.bind, xdL]
  unfold xnv
  dsimp only
  rw [this]
  dsimp only
  rw [hm]
theorem xcv {σ : St} {o : xg2} {a : Nat} (h : a < σ.next) : (σ.push o).objs a = σ.objs a := if_neg (by omega)
theorem xdV {σ : St} {o : xg2} : (σ.push o).objs σ.next = o := if_pos rfl
theorem xgr {σ : St} {o : xg2} : (σ.push o).next = σ.next + 1 := rfl
section
variable {σ σ' σ0 : St} {g g' : G} {t t' : T} {A : Adr} {j j' : Int} {w w' : Nat → Option (Int × Int × Bool)} {z z' : Bool} {nV nV' : Nat} {D : List (Int × PV)} {ol h : Nat} {x0 y5 y6 : Option PV}
theorem xsT {pr : Nat} {ks : List Int} {a : Int} (X : Ex σ0 σ pr ks) (hz : ks.length ≤ 100) {y8 y9 y10 : Option PV} :
    ∃ σ' pl pe, xcy [12, 13] (xeJ (xa1 (xdg [false, false, false, false, false, false, false, true, false, false, false, false, false, false] (xa3 11) (xaP (xa3 8) (xbQ cLt (xa3 0) (xai cLt (xaK 16)))) (xa3 0)) (xa1 (xdg [false, false, false, false, false, false, false, true, false, false, false, false, false, false] (xa3 11) (xaP (xaK 0) (xbQ cLt (xa3 0) (xai cLt (xa3 8)))) (xa3 0)) xa8))) (xcT x0 A h y5 y6 (some (.int a)) y8 y9 y10 (some (.ref pr)) none none) σ = some ((.next, xcT x0 A h y5 y6 (some (.int a)) y8 y9 y10 (some (.ref pr)) (some (.ref pl)) (some (.ref pe))), σ') ∧
      σ0.next ≤ pl ∧ σ0.next ≤ pe ∧ pl < σ'.next ∧ pe < σ'.next ∧ (∀ x, x < σ0.next → σ'.objs x = σ0.objs x) ∧ σ'.objs pl = .list ((ks.filter (fun x => decide (a < x) && decide (x < 16))).map .int) ∧ σ'.objs pe = .list ((ks.filter (fun x => decide (0 < x) && decide (x < a))).map .int) := by
  have xl := X.lo
  have xh := X.hi
  have hpr := X.pr
  generalize hσ1 : σ.set pr (.flist (ks.map .int)) = σ1
  have x1 : σ1.next = σ.next := by rw [← hσ1]; rfl
  have o1 : ∀ x, x ≠ pr → σ1.objs x = σ.objs x := fun x hx => by rw [← hσ1, xao, if_neg hx]
  have i1 : xbo (.ref pr) σ = some (ks.map PV.int, σ1) := by rw [xd0 hpr, hσ1]
  have c1 := xds (α := Int) (r := PV.int) (keep := [false, false, false, false, false, false, false, true, false, false, false, false, false, false]) (a := xa3 11) (t := xaP (xa3 8) (xbQ cLt (xa3 0) (xai cLt (xaK 16)))) (e := xa3 0) (fr := xcT x0 A h y5 y6 (some (.int a)) y8 y9 y10 (some (.ref pr)) none none) (σ0 := σ) (b := fun x => decide (a < x) && decide (x < 16)) (f := PV.int) rfl i1 (by omega) (fun x _ => xfy (x := .int a) rfl (xeP (σ2 := σ1) (y := .int x) rfl rfl (xei (y := .int 16) rfl rfl))) (fun _ _ _ => rfl)
  generalize hσ2 : σ1.push (.list ((ks.filter (fun x => decide (a < x) && decide (x < 16))).map .int)) = σ2 at c1
  have x2 : σ2.next = σ1.next + 1 := by rw [← hσ2]; rfl
  have i2 : xbo (.ref pr) σ2 = some (ks.map PV.int, σ2) := by
    have : σ2.objs pr = .flist (ks.map .int) := by
      rw [← hσ2, xcv (by omega), ← hσ1]
      exact if_pos rfl
    unfold xbo
    simp only [this]
  have c2 := xds (α := Int) (r := PV.int) (keep := [false, false, false, false, false, false, false, true, false, false, false, false, false, false]) (a := xa3 11) (t := xaP (xaK 0) (xbQ cLt (xa3 0) (xai cLt (xa3 8)))) (e := xa3 0) (fr := xcT x0 A h y5 y6 (some (.int a)) y8 y9 y10 (some (.ref pr)) none none) (σ0 := σ2) (b := fun x => decide (0 < x) && decide (x < a)) (f := PV.int) rfl i2 (by omega) (fun x _ => xfy (x := .int 0) rfl (xeP (σ2 := σ2) (y := .int x) rfl rfl (xei (y := .int a) rfl rfl))) (fun _ _ _ => rfl)
  refine ⟨_, σ1.next, σ2.next, xdF (xhZ (xaR c1 (xaR c2 xdo)) (by show 2 ≤ 1000; decide)) rfl, by omega, by omega, ?_, ?_, fun x hx => ?_, ?_, xdV⟩
  · rw [xgr]; omega
  · rw [xgr]; omega
  · rw [xcv (by omega), ← hσ2, xcv (by omega), o1 x (by omega)]
    exact X.old x hx
  · rw [xcv (by omega), ← hσ2]
    exact xdV
theorem xqL (H : Lw σ g t A j w z nV) (hh : g.hm = h) {pl pe : Nat} {L1 L2 : List Int} {a : Int} (h1 : pl < σ.next) (h2 : pe < σ.next) (k1 : 10 ≤ (g.tag pl).1) (k2 : 10 ≤ (g.tag pe).1) (o1 : σ.objs pl = .list (L1.map .int)) (o2 : σ.objs pe = .list (L2.map .int)) (z1 : L1.length ≤ 100) (z2 : L2.length ≤ 100)
    (m1 : ∀ x, x ∈ L1 ↔ (∃ k, k < g.N ∧ g.lv k = true ∧ (x = g.B k ∨ x = g.E k)) ∧ a < x ∧ x < 16) (m2 : ∀ x, x ∈ L2 ↔ (∃ k, k < g.N ∧ g.lv k = true ∧ (x = g.B k ∨ x = g.E k)) ∧ 0 < x ∧ x < a) {y8 y9 y10 y11 : Option PV} :
    ∃ σ', xcA (xdY (xc8 (xa1 (xad xbs (xa1 (xa3 2) (xa1 (xa3 7) (xa1 (xaK 16) xa8)))) (xa1 (xad xbg (xa1 (xa3 2) (xa1 (xa3 7) (xa1 (xaK 0) xa8)))) xa8))) (xai cEq (xc8 (xa1 (xad xnl (xa1 (xbG xpl (xa3 12) (xc8 (xa1 (xaK 16) xa8))) xa8)) (xa1 (xad xnv (xa1 (xbG xpl (xa3 13) (xc8 (xa1 (xaK 0) xa8))) xa8)) xa8))))) (xcT x0 A h y5 y6 (some (.int a)) y8 y9 y10 y11 (some (.ref pl)) (some (.ref pe))) σ = some ((.ret (.bool true), xcT x0 A h y5 y6 (some (.int a)) y8 y9 y10 y11 (some (.ref pl)) (some (.ref pe))), σ') := by
  obtain ⟨M1, σ1, t1, a1, a2, a3, a4, a5, a6⟩ := xtt H.ps a 16
  have H1 := H.prog0 a2 a3
  obtain ⟨M2, σ2, t2, b1, b2, b3, b4, b5, b6⟩ := xsV H1.ps a 0
  rw [hh] at a1 b1
  have u1 := a3.next
  have u2 := b3.next
  have p1 : σ2.objs pl = .list (L1.map .int) := (b3.old pl (by omega) k1).trans ((a3.old pl h1 k1).trans o1)
  have p2 : σ2.objs pe = .list (L2.map .int) := (b3.old pe (by omega) k2).trans ((a3.old pe h2 k2).trans o2)
  obtain ⟨n1, q1, q2, q3⟩ := xs1 L1 16
  obtain ⟨n2, r1, r2, r3⟩ := xrU L2 0
  have e1 : M1 = n1 := by
    have le1 : n1 ≤ M1 := by
      rcases a6 with rfl | ⟨k, s1, s2, s3, s4, s5⟩
      · exact q3 16 (by simp)
      · exact q3 M1 (List.mem_append_left _ ((m1 M1).mpr ⟨⟨k, s1, s2, s3⟩, s4, s5⟩))
    have le2 : M1 ≤ n1 := by
      rcases List.mem_append.mp q2 with s | s
      · obtain ⟨⟨k, s1, s2, s3⟩, s4, s5⟩ := (m1 n1).mp s
        exact a5 k s1 s2 n1 s3 s4 s5
      · have : n1 = 16 := by simpa using s
        omega
    omega
  have e2 : M2 = n2 := by
    have le1 : M2 ≤ n2 := by
      rcases b6 with rfl | ⟨k, s1, s2, s3, s4, s5⟩
      · exact r3 0 (by simp)
      · exact r3 M2 (List.mem_append_left _ ((m2 M2).mpr ⟨⟨k, s1, s2, s3⟩, s5, s4⟩))
    have le2 : n2 ≤ M2 := by
      rcases List.mem_append.mp r2 with s | s
      · obtain ⟨⟨k, s1, s2, s3⟩, s4, s5⟩ := (m2 n2).mp s
        exact b5 k s1 s2 n2 s3 s5 s4
      · have : n2 = 0 := by simpa using s
        omega
    omega
  have c1 : xad xbs (xa1 (xa3 2) (xa1 (xa3 7) (xa1 (xaK 16) xa8))) (xcT x0 A h y5 y6 (some (.int a)) y8 y9 y10 y11 (some (.ref pl)) (some (.ref pe))) σ = some (.int M1, σ1) := xb2 (vs := [.ref h, .int a, .int 16]) (σ0 := σ) rfl a1
  have c2 : xad xbg (xa1 (xa3 2) (xa1 (xa3 7) (xa1 (xaK 0) xa8))) (xcT x0 A h y5 y6 (some (.int a)) y8 y9 y10 y11 (some (.ref pl)) (some (.ref pe))) σ1 = some (.int M2, σ2) := xb2 (vs := [.ref h, .int a, .int 0]) (σ0 := σ1) rfl b1
  have c3 := xgv (xaR c1 (xaR c2 xdo)) (by show 2 ≤ 1000; decide)
  generalize hσ3 : σ2.push (.list [.int M1, .int M2]) = σ3 at c3
  have x3 : σ3.next = σ2.next + 1 := by rw [← hσ3]; rfl
  have d1 : xc8 (xa1 (xaK 16) xa8) (xcT x0 A h y5 y6 (some (.int a)) y8 y9 y10 y11 (some (.ref pl)) (some (.ref pe))) σ3 = some (.ref σ3.next, σ3.push (.list [.int 16])) := rfl
  generalize hσ4 : σ3.push (.list [.int 16]) = σ4 at d1
  have x4 : σ4.next = σ3.next + 1 := by rw [← hσ4]; rfl
  have d2 := xpC (ks := L1) (ls := [16]) (a := xa3 12) (σ1 := σ3) (r1 := pl) rfl d1 (by rw [← hσ4, xcv (by omega), ← hσ3, xcv (by omega)]; exact p1) (by rw [← hσ4]; exact xdV) (by show L1.length + 1 ≤ 1000; omega)
  generalize hσ5 : σ4.push (.list ((L1 ++ [16]).map .int)) = σ5 at d2
  have x5 : σ5.next = σ4.next + 1 := by rw [← hσ5]; rfl
  have d3 := xr6 d2 (by rw [← hσ5]; exact xdV) q1
  have d4 : xc8 (xa1 (xaK 0) xa8) (xcT x0 A h y5 y6 (some (.int a)) y8 y9 y10 y11 (some (.ref pl)) (some (.ref pe))) σ5 = some (.ref σ5.next, σ5.push (.list [.int 0])) := rfl
  generalize hσ6 : σ5.push (.list [.int 0]) = σ6 at d4
  have x6 : σ6.next = σ5.next + 1 := by rw [← hσ6]; rfl
  have d5 := xpC (ks := L2) (ls := [0]) (a := xa3 13) (σ1 := σ5) (r1 := pe) rfl d4 (by rw [← hσ6, xcv (by omega), ← hσ5, xcv (by omega), ← hσ4, xcv (by omega), ← hσ3, xcv (by omega)]; exact p2) (by rw [← hσ6]; exact xdV) (by show L2.length + 1 ≤ 1000; omega)
  generalize hσ7 : σ6.push (.list ((L2 ++ [0]).map .int)) = σ7 at d5
  have x7 : σ7.next = σ6.next + 1 := by rw [← hσ7]; rfl
  have d6 := xry d5 (by rw [← hσ7]; exact xdV) r1
  have d7 := xgv (xaR d3 (xaR d6 xdo)) (by show 2 ≤ 1000; decide)
  generalize hσ8 : σ7.push (.list [.int n1, .int n2]) = σ8 at d7
  have w1 : σ8.objs σ2.next = .list (([M1, M2] : List Int).map .int) := by
    rw [← hσ8, xcv (by omega), ← hσ7, xcv (by omega), ← hσ6, xcv (by omega), ← hσ5, xcv (by omega), ← hσ4, xcv (by omega), ← hσ3]
    exact xdV
  have w2 : σ8.objs σ7.next = .list (([n1, n2] : List Int).map .int) := by rw [← hσ8]; exact xdV
  refine ⟨σ8, ?_⟩
  unfold xcA
  rw [xaj (xfs c3 (xei (p := true) d7 ?_))]
  simp only [cEq, xc7, w1, w2, xdL, e1, e2, decide_true]
end
end
section
open PySem
def g0 : G where
  hm := 7
  ru := 5
  tr := 8
  od := 9
  ov := fun _ => 0
  nd := fun _ => 0
  pl := fun _ => 0
  tag := fun a => if a = 7 then (1, 0) else if a = 5 then (2, 0) else if a = 8 then (3, 0) else if a = 9 then (4, 0) else (10, 0)
  N := 0
  lv := fun _ => false
  fl := fun _ => false
  B := fun _ => 0
  E := fun _ => 0
def A0 : Adr := ⟨2, 1, 10, 11⟩
def xrF (k : Int) : Int := if k < 0 then -k else k
theorem xro (ks : List Int) (h : ks.length ≤ 1000) (y2 y3 y4 y5 y6 y7 y8 y9 y10 y11 y12 y13 : Option PV) : ∃ f, xak 1 (xc8 (xa1 (xdg [false, false, false, false, false, false, false, false, false, false, false, false, false, false] (xhQ 63 (xa3 0)) xbV (xad xsM (xa1 (xa3 0) xa8))) (xa1 (xaK 0) xa8))) [some (.scr ks), none, y2, y3, y4, y5, y6, y7, y8, y9, y10, y11, y12, y13] ⟨fun _ => .list [], 0⟩ = some ((.next, [some (.scr ks), some (.ref 2), y2, y3, y4, y5, y6, y7, y8, y9, y10, y11, y12, y13]), ⟨f, 3⟩) ∧ f 1 = .list (((ks.take 63).map xrF).map .int) ∧ f 2 = .list [.ref 1, .int 0] := by
  have hz : ((ks.map PV.int).take 63).length ≤ 1000 := by rw [List.length_take]; omega
  generalize hσ1 : (St.push ⟨fun _ => .list [], 0⟩ (.list ((ks.map PV.int).take 63))) = σ1
  have x1 : σ1.next = 1 := by rw [← hσ1]; rfl
  have ht : xhQ 63 (xa3 0) [some (.scr ks), none, y2, y3, y4, y5, y6, y7, y8, y9, y10, y11, y12, y13] ⟨fun _ => .list [], 0⟩ = some (.ref 0, σ1) := by
    unfold xhQ
    show (match xid 63 (.scr ks) _ with | some ws => xnM ws _ | none => none) = _
    have : xid 63 (.scr ks) ⟨fun _ => .list [], 0⟩ = some ((ks.map PV.int).take 63) := by
      unfold xid
      rw [if_pos (by decide)]
      exact if_pos h
    rw [this, ← hσ1]
    exact if_pos hz
  have ho : σ1.objs 0 = .list ((ks.take 63).map PV.int) := by rw [← hσ1, List.map_take]; rfl
  generalize hσ2 : σ1.set 0 (.flist ((ks.take 63).map PV.int)) = σ2
  have x2 : σ2.next = 1 := by rw [← hσ2]; exact x1
  have hit : xbo (.ref 0) σ1 = some ((ks.take 63).map PV.int, σ2) := by rw [xd0 ho, hσ2]
  have c := xds (α := Int) (r := PV.int) (keep := [false, false, false, false, false, false, false, false, false, false, false, false, false, false]) (a := xhQ 63 (xa3 0)) (t := xbV) (e := xad xsM (xa1 (xa3 0) xa8)) (fr := [some (.scr ks), none, y2, y3, y4, y5, y6, y7, y8, y9, y10, y11, y12, y13]) (b := fun _ => true) (f := fun x => .int (xrF x)) ht hit (by rw [List.length_take]; omega) (fun _ _ => rfl) (fun _ _ _ => rfl)
  rw [List.filter_eq_self.mpr (fun _ _ => rfl), x2] at c
  have c2 := xgv (xaR c (xaR (show xaK 0 _ _ = some (PV.int 0, _) from rfl) xdo)) (by show 2 ≤ 1000; decide)
  have hst : (σ2.push (.list ((ks.take 63).map (fun x => PV.int (xrF x))))).push (.list [.ref 1, .int 0]) = ⟨((σ2.push (.list ((ks.take 63).map (fun x => PV.int (xrF x))))).push (.list [.ref 1, .int 0])).objs, 3⟩ := by
    show St.mk _ (σ2.next + 1 + 1) = St.mk _ 3
    rw [x2]
    rfl
  refine ⟨((σ2.push (.list ((ks.take 63).map (fun x => PV.int (xrF x))))).push (.list [.ref 1, .int 0])).objs, ?_, ?_, ?_⟩
  · unfold xak
    rw [xaj c2, hst]
    show some _ = some _
    rw [xgr, x2]
    rfl
  · rw [xcv (by rw [xgr, x2]; decide)]
    have := xdV (σ := σ2) (o := .list ((ks.take 63).map (fun x => PV.int (xrF x))))
    rw [x2] at this
    rw [this, List.map_map]
    rfl
  · have := xdV (σ := σ2.push (.list ((ks.take 63).map (fun x => PV.int (xrF x))))) (o := .list [.ref 1, .int 0])
    rw [xgr, x2] at this
    exact this
theorem xr7 {f : Nat → xg2} {ks : List Int} (h1 : f 1 = .list (ks.map .int)) (hk : ks.length ≤ 63) (h2 : f 2 = .list [.ref 1, .int 0]) (h5 : f 5 = ruO 3 6) (h7 : f 7 = .inst 3 [.ref 8, .ref 9, .ref 5]) (h8 : f 8 = .inst 1 [.none, .int 0]) (h9 : f 9 = .dict []) (h10 : f 10 = .dict []) (h11 : f 11 = .list []) : Lw ⟨f, 12⟩ g0 .E A0 0 (xcb g0) false 0 := by
  have no : ∀ {k : Nat} {P : Prop}, k < g0.N → P := fun h => absurd h (Nat.not_lt_zero _)
  refine ⟨⟨h7, ⟨3, 6, h5⟩, ⟨⟨0, h8⟩, trivial, by simp [T.ids, T.nodes], fun a ha => ?_⟩, trivial, by decide +kernel, List.Pairwise.nil, fun it => ⟨(fun q => by cases q), fun ⟨k, q, _⟩ => no q⟩, fun k q => no q, ⟨[], h9, List.nodup_nil, by decide, fun k q => no q, (fun kv q => by cases q)⟩, fun k q => no q, fun k q => no q, fun k q => no q, rfl, rfl, rfl, rfl, fun k q => no q, fun k q => no q, fun k q => no q, by show 7 < 12; decide, by show 5 < 12; decide, by show 9 < 12; decide, fun k q => no q, fun k q => no q, fun k q => no q⟩, fun a ha => ?_, by decide, by decide, by decide, by decide, by decide, by decide, by decide, by show 11 < 12; decide, h2, ⟨ks, hk, h1⟩, by decide, ⟨[], h10, ⟨List.nodup_nil, fun k b e f q => ?_, (fun kv q => by cases q), fun k q => ?_⟩⟩, h11, Nat.le_refl _, by decide⟩
  · have : a = 8 := by simpa [T.ids, T.nodes, g0] using ha
    rw [this]; show 8 < 12; decide
  · have ha' : 12 ≤ a := ha
    show 10 ≤ (if a = 7 then _ else if a = 5 then _ else if a = 8 then _ else if a = 9 then _ else _ : Nat × Nat).1
    rw [if_neg (by omega), if_neg (by omega), if_neg (by omega), if_neg (by omega)]
    decide
  · have : xcb g0 k = none := if_neg (fun q => no q.1)
    rw [this] at q; cases q
  · exact (xes.mp q).1
theorem xqD (ks : List Int) (hk : ks.length ≤ 63) : ∃ fr σ', xsJ [some (.scr ks), none, none, none, none, none, none, none, none, none, none, none, none, none] ⟨fun _ => .list [], 0⟩ = some ((.ret (.bool true), fr), σ') := by
  obtain ⟨f0, a1, a2, a3⟩ := xro ks (by omega) none none none none none none none none none none none none
  obtain ⟨f, b1, b2, b3, b4, b5, b6, b7, b8⟩ := xqJ f0 [some (.scr ks), some (.ref 2), none, none, none, none, none, none, none, none, none, none, none, none]
  have s2 : xcy [2, 3, 4] xt7 [some (.scr ks), some (.ref 2), none, none, none, none, none, none, none, none, none, none, none, none] ⟨f0, 3⟩ = some ((.next, xcT (some (.scr ks)) A0 7 none none none none none none none none none), ⟨f, 12⟩) := xdF b1 rfl
  have H0 : Lw ⟨f, 12⟩ g0 .E A0 0 (xcb g0) false g0.N := xr7 (ks := (ks.take 63).map xrF) ((b2 1 (by decide)).trans a2) (by rw [List.length_map, List.length_take]; omega) ((b2 2 (by decide)).trans a3) b3 b4 b5 b6 b7 b8
  obtain ⟨σ1, g1, t1, y5, j1, s3, H1, m1, n1, q1⟩ := xrt (x0 := some (.scr ks)) (h := 7) H0 rfl rfl (by decide)
  obtain ⟨σ2, g2, t2, j2, s4, H2, m2, n2, q2⟩ := xsC (x0 := some (.scr ks)) H1 m1 n1 (by omega) y5
  obtain ⟨σ3, g3, t3, j3, s5, H3, m3, n3, q3⟩ := xrv (x0 := some (.scr ks)) H2 m2 n2 (by omega) y5
  obtain ⟨σ4, s6, H4⟩ := xsl (x0 := some (.scr ks)) H3 m3 (y5 := y5) (y6 := none) (y7 := none) (y8 := none) (y9 := none) (y10 := none) (y11 := none) (y12 := none) (y13 := none)
  obtain ⟨σ5, t5, y6, s7, H5⟩ := xpF (h := 7) (x0 := some (.scr ks)) H4 y5
  obtain ⟨a, s, σ6, s8, H6, l1, l2, l3, l4⟩ := xqI (h := 7) (x0 := some (.scr ks)) (y5 := y5) (y6 := y6) H5 (by omega)
  obtain ⟨l, e, σ7, s9, H7, l5, l6⟩ := xqS (h := 7) (x0 := some (.scr ks)) (y5 := y5) (y6 := y6) (a := a) H6 (by omega) l3 l4
  obtain ⟨σ8, t8, s10, H8⟩ := xu0 (x0 := some (.scr ks)) (y5 := y5) (y6 := y6) (a := a) (y8 := some (.int s)) (y9 := some (.int l)) (y10 := some (.int e)) (y11 := none) (y12 := none) (y13 := none) H7 m3
  obtain ⟨σ9, t9, s11, H9⟩ := xtO (x0 := some (.scr ks)) (y5 := y5) (y6 := y6) (s := s) (l := l) (e := e) (y7 := some (.int a)) (y11 := none) (y12 := none) (y13 := none) H8 m3 l3 l5 l6
  obtain ⟨σ10, σ11, y6', K, pr, s12, s13, X, z1, z2⟩ := xsA (h := 7) (x0 := some (.scr ks)) (y5 := y5) (y6 := y6) (y7 := some (.int a)) (y8 := some (.int s)) (y9 := some (.int l)) (y10 := some (.int e)) (y11 := none) (y12 := none) (y13 := none) H9
  obtain ⟨σ12, pl, pe, s14, p1, p2, p3, p4, p5, p6, p7⟩ := xsT (A := A0) (h := 7) (x0 := some (.scr ks)) (y5 := y5) (y6 := y6') (a := a) (y8 := some (.int s)) (y9 := some (.int l)) (y10 := some (.int e)) X z1
  have H12 : Lw σ12 g3 t9 A0 (j3 + 2 + 2) (xcb g3) true g3.N := H9.quiet (by omega) p5
  obtain ⟨σ13, s15⟩ := xqL (x0 := some (.scr ks)) (y5 := y5) (y6 := y6') (a := a) (y8 := some (.int s)) (y9 := some (.int l)) (y10 := some (.int e)) (y11 := some (.ref pr)) H12 m3 p3 p4 (H9.fr _ p1) (H9.fr _ p2) p6 p7 (Nat.le_trans (List.length_filter_le _ _) z1) (Nat.le_trans (List.length_filter_le _ _) z1) (fun x => by
    rw [List.mem_filter, z2, Bool.and_eq_true, decide_eq_true_eq, decide_eq_true_eq]) (fun x => by
    rw [List.mem_filter, z2, Bool.and_eq_true, decide_eq_true_eq, decide_eq_true_eq])
  refine ⟨xcT (some (.scr ks)) A0 7 y5 y6' (some (.int a)) (some (.int s)) (some (.int l)) (some (.int e)) (some (.ref pr)) (some (.ref pl)) (some (.ref pe)), σ13, ?_⟩
  unfold xsJ
  exact xav a1 (xav s2 (xav s3 (xav s4 (xav s5 (xav s6 (xav s7 (xav s8 (xav s9 (xav s10 (xav s11 (xav s12 (xav s13 (xav s14 (xb8 s15))))))))))))))
end
section
open PySem PySem.W PyProof.Rows PySem.Calls
theorem xpS (P : Params) : xlF (xaJ (hd.heap_39 P) 556) xq1 xiT = true := by rfl
theorem xpG (P : Params) (L : Addr) : (cellsFrom L (xaJ (hd.heap_39 P) 556).names []).map (·.2) = [L + 4, L + 3, L + 2, L + 1, L] := by rfl
theorem xqh (P : Params) : (xaJ (hd.heap_39 P) 556).names.lookup ("script" : Str) = some NameKind.local := by rfl
theorem room_caller : xhK 11 callerA := ⟨rfl, by show (301 : Nat) + 11 < 690; decide, by show (4 : Nat) + 8 * 11 + 100 < 9900; decide⟩
theorem law_join {prog : Program} {w : World} {mg mb : Str → Option Value} {pp : Program} {loose : List Str} {A : Around} {s : Shared} {H : Heap} (KX : (hd.heap_39 w.params).In H) (T : TopRead pp loose mg mb H) {l : Addr} {vals : List Value} {ks : List Int}
    (hL : H.IsList l vals.toArray) (hI : IntsAre vals ks) (hlen : ks.length ≤ 63) {nm : Str} {a : Addr} {cd : Value} {E : Value → Shared → Prop} {Q : Flow → Shared → Prop}
    (F : Fr H H.objs.size s.heap (bindL (envOfC nm (xaJ (hd.heap_39 w.params) 556) H.objs.size a cd).kindOf [("script", .ref l)] fun _ => none))
    {o1 o2 o3 o4 o5 : Obj} (N : News H H.objs.size s.heap [(H.objs.size + 1 + 1 + 1 + 1 + 1, o5), (H.objs.size + 1 + 1 + 1 + 1, o4), (H.objs.size + 1 + 1 + 1, o3), (H.objs.size + 1 + 1, o2), (H.objs.size + 1, o1)])
    (c1 : ∃ v, o1.data = .cell v) (c2 : ∃ v, o2.data = .cell v) (c3 : ∃ v, o3.data = .cell v) (c4 : ∃ v, o4.data = .cell v) (c5 : ∃ v, o5.data = .cell v)
    (rm : xhK 10 A)
    (hq : ∀ h' tk, (∀ b o, H.get? b = some o → h'.get? b = some o) → (∃ m, h'.Ns H.objs.size m) → Q (.ret (.bool true)) { s with heap := h', toks := tk }) :
    wpAny (model prog w) A (execs (xbd (hd.heap_39 w.params) 556) (envOfC nm (xaJ (hd.heap_39 w.params) 556) H.objs.size a cd)) Q E s := by
  let S : xfo := { prog := prog, w := w, K := hd.heap_39 w.params, h₀ := H, mg := mg, mb := mb, pp := pp, loose := loose, X := KX, T := T, flds := xpA, cadr := xtn, inj := xq4 }
  have hS : Std S := ⟨rfl, rfl, rfl⟩
  obtain ⟨fr, σ', hlaw⟩ := xqD ks hlen
  have hok := xpS w.params
  have hscr := xqh w.params
  have hcl := xpG w.params (H.objs.size + 1)
  generalize hsc : xaJ (hd.heap_39 w.params) 556 = scope at F hok hscr hcl ⊢
  simp only [xlF, Bool.and_eq_true, Bool.not_eq_true', decide_eq_true_eq, List.all_eq_true, Bool.or_eq_true, beq_iff_eq] at hok
  obtain ⟨⟨⟨⟨⟨⟨hl, hg⟩, hgc⟩, hnd⟩, hco⟩, hgen⟩, hkf⟩ := hok
  have hinj : ∀ (j k : Nat) (x : Str), xiT[j]? = some x → xiT[k]? = some x → j = k := fun j k x h1 h2 => by
    have hj : j < xiT.length := (List.getElem?_eq_some_iff.mp h1).1
    exact (List.getElem?_inj hj hnd).mp (h1.trans h2.symm)
  obtain ⟨ol, h1, h2, n0, h3⟩ := hL
  let W : Gh := { ad := fun _ => (0, 0), T := fun b => if b = l then some ol else none, fz := fun _ => false }
  have hT : W.T l = some ol := if_pos rfl
  have nOwn : ∀ b, ¬ Own W 0 b := fun b ⟨i, hi, _⟩ => Nat.not_lt_zero _ hi
  have nAll : ∀ b, ¬ All W 0 b := fun b ⟨i, hi, _⟩ => Nat.not_lt_zero _ hi
  have R0 : Rep S W ⟨fun _ => .list [], 0⟩ s.heap := ⟨F.keep, fun i hi => absurd hi (Nat.not_lt_zero _), fun i j hi => absurd hi (Nat.not_lt_zero _), fun i hi => absurd hi (Nat.not_lt_zero _), fun i hi => absurd hi (Nat.not_lt_zero _), fun i hi => absurd hi (Nat.not_lt_zero _), fun b o e => by
    have e' : (if b = l then some ol else none) = some o := e
    by_cases q : b = l
    · rw [if_pos q] at e'; cases e'
      rw [q]
      exact ⟨F.keep _ _ h1, nOwn _, trivial, .inr (.inr ⟨h2, _, _, h3⟩)⟩
    · rw [if_neg q] at e'; cases e'⟩
  have hvr : VR W 0 (.scr ks) (.ref l) := .scr ks ol vals n0 l hT h2 h3 hI
  have hko : ∀ x, (envOfC nm scope H.objs.size a cd).kindOf x = scope.names.lookup x := fun x => rfl
  have ok := cellsFrom_ok scope.names (H.push { cls := .type "frame", data := .dict #[] }) (H.objs.size + 1) [] ⟨fun _ _ hm => (nomatch hm), List.Pairwise.nil⟩ (by rw [Heap.size_push]; exact Nat.le_refl _)
  rw [Heap.size_push] at ok
  have hmem : ∀ x c, (envOfC nm scope H.objs.size a cd).cells.lookup x = some c → c = H.objs.size + 1 + 4 ∨ c = H.objs.size + 1 + 3 ∨ c = H.objs.size + 1 + 2 ∨ c = H.objs.size + 1 + 1 ∨ c = H.objs.size + 1 := fun x c h => by
    have h' : (x, c) ∈ cellsFrom (H.objs.size + 1) scope.names [] := mem_of_lookup h
    have : c ∈ (cellsFrom (H.objs.size + 1) scope.names []).map (·.2) := List.mem_map.mpr ⟨_, h', rfl⟩
    rw [hcl] at this
    simpa using this
  have hbase : ∀ b, H.objs.size ≤ b → H.get? b = none := fun b hb => Heap.get?_none_of_le hb
  have F1 : Frm S (envOfC nm scope H.objs.size a cd) W 0 s.heap := ⟨hkf, rfl, rfl, ⟨_, F.ns⟩, nAll _, hbase _ (Nat.le_refl _), fun x c h => ⟨by
      rcases hmem x c h with q | q | q | q | q
      · obtain ⟨v, hv⟩ := c5; exact ⟨v, o5, by rw [q]; exact N.get (by simp), hv⟩
      · obtain ⟨v, hv⟩ := c4; exact ⟨v, o4, by rw [q]; exact N.get (by simp), hv⟩
      · obtain ⟨v, hv⟩ := c3; exact ⟨v, o3, by rw [q]; exact N.get (by simp), hv⟩
      · obtain ⟨v, hv⟩ := c2; exact ⟨v, o2, by rw [q]; exact N.get (by simp), hv⟩
      · obtain ⟨v, hv⟩ := c1; exact ⟨v, o1, by rw [q]; exact N.get (by simp), hv⟩, nAll _, hbase _ (by rcases hmem x c h with q | q | q | q | q <;> rw [q] <;> first | exact Nat.le_trans (Nat.le_add_right _ 1) (Nat.le_add_right _ _) | exact Nat.le_add_right _ 1)⟩,
    fun x y c h1 h2 => name_of_addr ok.apart (mem_of_lookup h1) (mem_of_lookup h2)⟩
  have V1 : xi9 (envOfC nm scope H.objs.size a cd) W 0 s.heap xiT [some (.scr ks), none, none, none, none, none, none, none, none, none, none, none, none, none] := by
    intro j x pv hj hp
    have hj0 : j = 0 := by
      match j, hp with
      | 0, _ => rfl
      | 1, hp => cases hp
      | 2, hp => cases hp
      | 3, hp => cases hp
      | 4, hp => cases hp
      | 5, hp => cases hp
      | 6, hp => cases hp
      | 7, hp => cases hp
      | 8, hp => cases hp
      | 9, hp => cases hp
      | 10, hp => cases hp
      | 11, hp => cases hp
      | 12, hp => cases hp
      | 13, hp => cases hp
      | n + 14, hp => simp at hp
    subst hj0
    cases hp
    cases hj
    refine ⟨.ref l, hvr, .inl ⟨(hko _).trans hscr, _, F.ns, ?_⟩⟩
    show (if (envOfC nm scope H.objs.size a cd).kindOf "script" = some .local then _ else _ : Str → Option Value) "script" = _
    rw [if_pos ((hko _).trans hscr)]
    exact if_pos rfl
  have G1 : GL xq1 (envOfC nm scope H.objs.size a cd) := ⟨fun x hx => (hko x).trans (hg x hx), fun x hx => ⟨(hko x).trans (hgc x hx), Option.isSome_iff_exists.mp (cellsFrom_some _ _ _ (.inl (hgc x hx)))⟩⟩
  have S1 : Sto (envOfC nm scope H.objs.size a cd) xiT := ⟨hinj, fun k x hk => by
    rcases hl x (List.mem_of_getElem? hk) with q | q
    · exact .inl ((hko x).trans q)
    · exact .inr ⟨(hko x).trans q, Option.isSome_iff_exists.mp (cellsFrom_some _ _ _ (.inl q))⟩⟩
  refine xtb hS A (envOfC nm scope H.objs.size a cd) W _ ⟨fun _ => .list [], 0⟩ s Q E (.ret (.bool true)) fr σ' rm G1 S1 R0 F1 V1 hlaw ?_
  intro W' f' h' tk R' t' F' V' fl
  have hf : f' = .ret (.bool true) := by
    cases f' with
    | ret v => cases fl; rfl
    | _ => cases fl
  rw [hf]
  exact hq h' tk R'.base F'.ns
end
end Mine
open PySem PySem.W PyProof.Rows
set_option maxRecDepth 100000 in
set_option maxHeartbeats 8000000 in
theorem PySem.Challenge.cw_np0092_01_holds : PySem.Challenge.rw_np0092_01.Holds := by
  refine hd (by
    k_go0
    (all_goals try k_fold)
    refine Mine.law_join (by assumption) (topRead_of (by assumption)) (by assumption) (by assumption) (by omega) (by assumption) (by assumption) ⟨_, by assumption⟩ ⟨_, by assumption⟩ ⟨_, by assumption⟩ ⟨_, by assumption⟩ ⟨_, by assumption⟩ Mine.room_caller.deeper (fun h' tk hk hm => ?_)
    obtain ⟨m, hm⟩ := hm
    refine goodW_bool ⟨hm, hk, Nat.le_refl _⟩ (by assumption) (raisesW_false ?_) ?_
    · wrow_none_raised
    · wrow_post)
