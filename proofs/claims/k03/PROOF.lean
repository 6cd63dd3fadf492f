import PyProof.Rows.All
import Wide.All
import OpenK.AllK
import Wide.FinOn
import HandS.ForMost
import HandS.ForExc
import HandS.ExcInit
import HandS.ExcField
import HandS.TryMany
import HandS.TryOnly
import HandS.CallSlots
import HandS.Defaults
import HandS.WordsExc
import HandS.TupAny
import HandS.TupMul
import HandS.TupLe
import HandS.Style
import HandS.IsInst
import HandS.Deep
import HandS.Dict
import HandS.Conv
import HandS.Small
import HandS.Zip
import KE.GoesMore
import HandS.Ends
import HandS.EndBits
import HandS.Words
import HandS.OwnEq
import HandS.ExcIs
import HandS.ClsMeth
import KE.KExcIs
import PySem.Challenge.RW_cupcap_k03_identities_and_generators
set_option Elab.async false
set_option linter.all false
set_option maxRecDepth 100000
/-! CCBase: values, cells, results; the relation to the layer's abstract heap -/
namespace CC
open PySem PySem.Spec PyProof.Rows L2

inductive W where
  | non | bl (b : Bool) | int (i : Int) | str (s : Str) | tup (ws : List W) | ref (n : Nat)

inductive Ob where
  | lst (ws : List W) | frz (ns : List Int) | dct (kvs : List (Key × W)) | dtt (kvs : List (List Key × W)) | ins (c : Nat) (fs : List (Nat × W))

abbrev Hh := List Ob
abbrev Lo := List (Option W)
/-- overrides of the cells that stood at the entry; new cells -/
structure S where
  ov : List (Nat × Ob)
  loc : List Ob

inductive R (α : Type) where
  | ok (a : α) (s : S) | exc (c : Nat) (w : W) (s : S) | bad
inductive RS where
  | nx (l : Lo) (s : S) | ret (w : W) (s : S) | brk (l : Lo) (s : S) | ct (l : Lo) (s : S) | exc (c : Nat) (w : W) (l : Lo) (s : S) | bad

def lookN (n : Nat) : List (Nat × Ob) → Option Ob
  | [] => none
  | (m, o) :: r => if n = m then some o else lookN n r
def putN (n : Nat) (o : Ob) : List (Nat × Ob) → List (Nat × Ob)
  | [] => [(n, o)]
  | (m, u) :: r => if n = m then (m, o) :: r else (m, u) :: putN n o r
/-- the cell n -/
def rd (p : Hh) (s : S) (n : Nat) : Option Ob :=
  if n < p.length then (match lookN n s.ov with | some o => some o | none => p[n]?) else s.loc[n - p.length]?
def wr (p : Hh) (s : S) (n : Nat) (o : Ob) : S :=
  if n < p.length then ⟨putN n o s.ov, s.loc⟩ else ⟨s.ov, s.loc.set (n - p.length) o⟩
def al (s : S) (o : Ob) : S := ⟨s.ov, s.loc ++ [o]⟩
def nxt (p : Hh) (s : S) : Nat := p.length + s.loc.length

theorem lookN_put (n m : Nat) (o : Ob) : ∀ l, lookN m (putN n o l) = if m = n then some o else lookN m l := by
  intro l
  induction l with
  | nil => simp only [putN, lookN]
  | cons q r ih =>
    obtain ⟨k, u⟩ := q
    simp only [putN]
    by_cases h : n = k
    · subst h
      simp only [if_true, lookN]
      by_cases hm : m = n <;> simp [hm]
    · simp only [if_neg h, lookN, ih]
      by_cases hm : m = k
      · subst hm
        simp [Ne.symm h]
      · simp [hm]

theorem rd_al {p : Hh} {s : S} {o : Ob} {n : Nat} : rd p (al s o) n = if n = nxt p s then some o else rd p s n := by
  unfold rd al nxt
  by_cases h : n < p.length
  · have h2 : n ≠ p.length + s.loc.length := by omega
    simp only [h, if_true, h2, if_false]
  · simp only [h, if_false]
    by_cases h2 : n = p.length + s.loc.length
    · subst h2
      simp
    · simp only [h2, if_false]
      by_cases h3 : n - p.length < s.loc.length
      · rw [List.getElem?_append_left h3]
      · have h4 : s.loc.length < n - p.length := by omega
        rw [List.getElem?_append_right (by omega), List.getElem?_eq_none (by simp; omega), List.getElem?_eq_none (by omega)]

theorem rd_wr {p : Hh} {s : S} {o : Ob} {n m : Nat} (hn : n < nxt p s) : rd p (wr p s n o) m = if m = n then some o else rd p s m := by
  unfold nxt at hn
  unfold rd wr
  by_cases h : n < p.length
  · simp only [h, if_true]
    by_cases hm : m < p.length
    · simp only [hm, if_true, lookN_put]
      by_cases e : m = n <;> simp [e]
    · have : m ≠ n := by omega
      simp only [hm, if_false, this]
  · simp only [h, if_false]
    by_cases hm : m < p.length
    · have : m ≠ n := by omega
      simp only [hm, if_true, this, if_false]
    · simp only [hm, if_false]
      by_cases e : m = n
      · subst e
        rw [List.getElem?_set_self (by omega)]
        simp
      · rw [List.getElem?_set_ne (by omega)]
        simp [e]
theorem nxt_wr {p : Hh} {s : S} {o : Ob} {n : Nat} : nxt p (wr p s n o) = nxt p s := by
  unfold nxt wr
  split
  · rfl
  · simp
theorem nxt_al {p : Hh} {s : S} {o : Ob} : nxt p (al s o) = nxt p s + 1 := by
  unfold nxt al
  simp; omega

/-- from (ρ, H) to (ρ', H'): cells added, what is no cell stands -/
structure Ex (ρ : List Addr) (H : Hp) (ρ' : List Addr) (H' : Hp) : Prop where
  pre : ∃ l, ρ' = ρ ++ l
  new : ∀ a, a ∈ ρ' → a ∉ ρ → H a = none
  keep : ∀ a o, a ∉ ρ → H a = some o → H' a = some o
theorem Ex.rfl' {ρ : List Addr} {H : Hp} : Ex ρ H ρ H := ⟨⟨[], by simp⟩, fun _ h n => absurd h n, fun _ _ _ h => h⟩
theorem Ex.trans {ρ ρ1 ρ2 : List Addr} {H H1 H2 : Hp} (x : Ex ρ H ρ1 H1) (y : Ex ρ1 H1 ρ2 H2) : Ex ρ H ρ2 H2 := by
  have nin : ∀ a o, a ∉ ρ → H a = some o → a ∉ ρ1 := fun a o na h m => by
    rw [x.new a m na] at h; cases h
  refine ⟨?_, fun a h n => ?_, fun a o n h => y.keep a o (nin a o n h) (x.keep a o n h)⟩
  · obtain ⟨l, rfl⟩ := x.pre
    obtain ⟨l', rfl⟩ := y.pre
    exact ⟨l ++ l', by simp⟩
  · by_cases h1 : a ∈ ρ1
    · exact x.new a h1 n
    · have z := y.new a h h1
      cases e : H a with
      | none => rfl
      | some o => rw [x.keep a o n e] at z; cases z
theorem Ex.nin {ρ ρ1 : List Addr} {H H1 : Hp} (x : Ex ρ H ρ1 H1) {a : Addr} {o : HO} (n : a ∉ ρ) (h : H a = some o) : a ∉ ρ1 := fun m => by
  rw [x.new a m n] at h; cases h
theorem Ex.get {ρ ρ1 : List Addr} {H H1 : Hp} (x : Ex ρ H ρ1 H1) {n : Nat} {a : Addr} (h : ρ[n]? = some a) : ρ1[n]? = some a := by
  obtain ⟨l, rfl⟩ := x.pre
  rw [List.getElem?_append_left (List.getElem?_eq_some_iff.mp h).1]
  exact h

/-! ### classes of the text -/
/-- the address of a class by its number, the names of its fields (of an exception: its one field) -/
structure GE where
  cls : Nat → Addr
  fld : Nat → List Str
  /-- what else holds of the slots (in an except suite: of the exception; the slot that holds it is not written) -/
  J : List Addr → L2.St → Hp → Prop
  jm : ∀ {ρ ρ1 : List Addr} {H H1 : Hp} {σ : L2.St}, Ex ρ H ρ1 H1 → J ρ σ H → J ρ1 σ H1
  hold : Option Nat
  js : ∀ {ρ : List Addr} {H : Hp} {σ : L2.St} (i : Nat) (o : Option V), hold ≠ some i → J ρ σ H → J ρ (σ.set i o) H
/-- nothing else -/
def GE.of (cls : Nat → Addr) (fld : Nat → List Str) : GE := ⟨cls, fld, fun _ _ _ => True, fun _ _ => True.intro, none, fun _ _ _ _ => True.intro⟩

/-! ### values -/
mutual
inductive RV (G : GE) (ρ : List Addr) (H : Hp) : W → V → Prop
  | non : RV G ρ H .non .non
  | bl (b : Bool) : RV G ρ H (.bl b) (.bl b)
  | int (i : Int) : RV G ρ H (.int i) (.int i)
  | str (z : Str) : RV G ρ H (.str z) (.str z)
  | ref {n : Nat} {a : Addr} (h : ρ[n]? = some a) : RV G ρ H (.ref n) (.ref a)
  | tup {a : Addr} {ws : List W} {vs : List V} (na : a ∉ ρ) (h : H a = some (.tup vs)) (r : RVs G ρ H ws vs) : RV G ρ H (.tup ws) (.ref a)
inductive RVs (G : GE) (ρ : List Addr) (H : Hp) : List W → List V → Prop
  | nil : RVs G ρ H [] []
  | cons {w : W} {v : V} {ws : List W} {vs : List V} (h : RV G ρ H w v) (r : RVs G ρ H ws vs) : RVs G ρ H (w :: ws) (v :: vs)
end

mutual
theorem RV.mono {G : GE} {ρ ρ1 : List Addr} {H H1 : Hp} (x : Ex ρ H ρ1 H1) : ∀ {w : W} {v : V}, RV G ρ H w v → RV G ρ1 H1 w v
  | _, _, .non => .non
  | _, _, .bl b => .bl b
  | _, _, .int i => .int i
  | _, _, .str z => .str z
  | _, _, .ref h => .ref (x.get h)
  | _, _, .tup na h r => .tup (x.nin na h) (x.keep _ _ na h) (RVs.mono x r)
theorem RVs.mono {G : GE} {ρ ρ1 : List Addr} {H H1 : Hp} (x : Ex ρ H ρ1 H1) : ∀ {ws : List W} {vs : List V}, RVs G ρ H ws vs → RVs G ρ1 H1 ws vs
  | _, _, .nil => .nil
  | _, _, .cons h r => .cons (RV.mono x h) (RVs.mono x r)
end

section
variable {G : GE} {ρ : List Addr} {H : Hp}
theorem RVs.len : ∀ {ws : List W} {vs : List V}, RVs G ρ H ws vs → ws.length = vs.length
  | _, _, .nil => rfl
  | _, _, .cons _ r => by simp [RVs.len r]
theorem RVs.get : ∀ {ws : List W} {vs : List V} {i : Nat} {w : W}, RVs G ρ H ws vs → ws[i]? = some w → ∃ v, vs[i]? = some v ∧ RV G ρ H w v
  | _, _, _, _, .nil, e => by simp at e
  | _, _, 0, _, .cons h _, e => by simp at e; subst e; exact ⟨_, rfl, h⟩
  | _, _, i + 1, _, .cons _ r, e => by
    obtain ⟨v, h1, h2⟩ := RVs.get (i := i) r (by simpa using e)
    exact ⟨v, by simpa using h1, h2⟩
theorem RVs.get' : ∀ {ws : List W} {vs : List V} {i : Nat} {v : V}, RVs G ρ H ws vs → vs[i]? = some v → ∃ w, ws[i]? = some w ∧ RV G ρ H w v
  | _, _, _, _, .nil, e => by simp at e
  | _, _, 0, _, .cons h _, e => by simp at e; subst e; exact ⟨_, rfl, h⟩
  | _, _, i + 1, _, .cons _ r, e => by
    obtain ⟨v, h1, h2⟩ := RVs.get' (i := i) r (by simpa using e)
    exact ⟨v, by simpa using h1, h2⟩
theorem RVs.app : ∀ {ws ws' : List W} {vs vs' : List V}, RVs G ρ H ws vs → RVs G ρ H ws' vs' → RVs G ρ H (ws ++ ws') (vs ++ vs')
  | _, _, _, _, .nil, s => s
  | _, _, _, _, .cons h r, s => .cons h (RVs.app r s)
theorem RVs.take : ∀ {ws : List W} {vs : List V} (n : Nat), RVs G ρ H ws vs → RVs G ρ H (ws.take n) (vs.take n)
  | _, _, 0, _ => by simp; exact .nil
  | _, _, _ + 1, .nil => .nil
  | _, _, n + 1, .cons h r => .cons h (RVs.take n r)
theorem RVs.drop : ∀ {ws : List W} {vs : List V} (n : Nat), RVs G ρ H ws vs → RVs G ρ H (ws.drop n) (vs.drop n)
  | _, _, 0, r => by simpa using r
  | _, _, _ + 1, .nil => .nil
  | _, _, n + 1, .cons _ r => RVs.drop n r
theorem RVs.set : ∀ {ws : List W} {vs : List V} (i : Nat) {w : W} {v : V}, RV G ρ H w v → RVs G ρ H ws vs → RVs G ρ H (ws.set i w) (vs.set i v)
  | _, _, _, _, _, _, .nil => .nil
  | _, _, 0, _, _, q, .cons _ r => .cons q r
  | _, _, i + 1, _, _, q, .cons h r => .cons h (RVs.set i q r)
theorem RVs.rev : ∀ {ws : List W} {vs : List V}, RVs G ρ H ws vs → RVs G ρ H ws.reverse vs.reverse
  | _, _, .nil => .nil
  | _, _, .cons h r => by
    simp only [List.reverse_cons]
    exact (RVs.rev r).app (.cons h .nil)
end

/-! ### cells -/
inductive RO (G : GE) (ρ : List Addr) (H : Hp) : Ob → HO → Prop
  | lst {ws : List W} {vs : List V} (r : RVs G ρ H ws vs) : RO G ρ H (.lst ws) (.lst vs)
  | frz {ns : List Int} {o : Obj} : RO G ρ H (.frz ns) (.frz o (.lst (ns.map V.int)))
  | dK {kvs : List (Key × W)} {ks : List (Key × V)} (r : kvs.map (·.1) = ks.map (·.1)) (r2 : RVs G ρ H (kvs.map (·.2)) (ks.map (·.2))) : RO G ρ H (.dct kvs) (.dK ks)
  | dT {kvs : List (List Key × W)} {ks : List (List Key × V)} (r : kvs.map (·.1) = ks.map (·.1)) (r2 : RVs G ρ H (kvs.map (·.2)) (ks.map (·.2))) : RO G ρ H (.dtt kvs) (.dT ks)
  | ins {c : Nat} {fs : List (Nat × W)} {gs : List (Str × V)} {dx : Addr} (k : fs.map (fun p => (G.fld c)[p.1]?) = gs.map (fun p => some p.1)) (r : RVs G ρ H (fs.map (·.2)) (gs.map (·.2))) : RO G ρ H (.ins c fs) (.ins (G.cls c) dx gs)
theorem RO.mono {G : GE} {ρ ρ1 : List Addr} {H H1 : Hp} (x : Ex ρ H ρ1 H1) {o : Ob} {u : HO} (r : RO G ρ H o u) : RO G ρ1 H1 o u := by
  cases r with
  | lst r => exact .lst (r.mono x)
  | frz => exact .frz
  | dK r r2 => exact .dK r (r2.mono x)
  | dT r r2 => exact .dT r (r2.mono x)
  | ins k r => exact .ins k (r.mono x)

structure Rep (G : GE) (ρ : List Addr) (p : Hh) (s : S) (H : Hp) : Prop where
  len : ρ.length = nxt p s
  nd : ρ.Nodup
  has : ∀ n o, rd p s n = some o → ∃ a u, ρ[n]? = some a ∧ H a = some u ∧ RO G ρ H o u

section
variable {G : GE} {ρ : List Addr} {H : Hp} {p : Hh} {s : S}
theorem Rep.at {n : Nat} {o : Ob} {a : Addr} (r : Rep G ρ p s H) (h : rd p s n = some o) (e : ρ[n]? = some a) : ∃ u, H a = some u ∧ RO G ρ H o u := by
  obtain ⟨b, u, e', q⟩ := r.has n o h
  rw [e] at e'; cases e'
  exact ⟨u, q⟩
theorem nodup_get {ρ : List Addr} (nd : ρ.Nodup) {n m : Nat} {a : Addr} (h : ρ[n]? = some a) (h' : ρ[m]? = some a) : n = m := by
  obtain ⟨h1, e1⟩ := List.getElem?_eq_some_iff.mp h
  obtain ⟨h2, e2⟩ := List.getElem?_eq_some_iff.mp h'
  exact (List.getElem_inj nd).mp (e1.trans e2.symm)
/-- a new cell -/
theorem Rep.alloc {q : Addr} {o : Ob} {u : HO} (r : Rep G ρ p s H) (hq : H q = none) (nq : ∀ n, ρ[n]? = some q → rd p s n ≠ none) (hu : RO G (ρ ++ [q]) (upd H q u) o u) : Ex ρ H (ρ ++ [q]) (upd H q u) ∧ Rep G (ρ ++ [q]) p (al s o) (upd H q u) ∧ RV G (ρ ++ [q]) (upd H q u) (.ref (nxt p s)) (.ref q) := by
  have nin : q ∉ ρ := fun m => by
    obtain ⟨n, h1, e⟩ := List.getElem_of_mem m
    have e' : ρ[n]? = some q := by rw [List.getElem?_eq_getElem h1, e]
    have z := nq n e'
    cases h : rd p s n with
    | none => exact z h
    | some o =>
      obtain ⟨a, u, e2, e3, _⟩ := r.has n o h
      rw [e'] at e2; cases e2
      rw [hq] at e3; cases e3
  have x : Ex ρ H (ρ ++ [q]) (upd H q u) := ⟨⟨[q], rfl⟩, fun a h n => by
    rcases List.mem_append.mp h with h | h
    · exact absurd h n
    · rw [List.mem_singleton.mp h]; exact hq, fun a o n h => by
    rw [upd_ne (fun e => by rw [e, hq] at h; cases h)]; exact h⟩
  refine ⟨x, ⟨by rw [List.length_append, r.len, nxt_al]; rfl, ?_, fun n o' h => ?_⟩, .ref (by rw [List.getElem?_append_right (by rw [r.len]; exact Nat.le_refl _), r.len]; simp)⟩
  · refine List.nodup_append.mpr ⟨r.nd, by simp, fun a ha b hb => ?_⟩
    rw [List.mem_singleton.mp hb]
    exact fun e => nin (e ▸ ha)
  · rw [rd_al] at h
    by_cases e : n = nxt p s
    · rw [if_pos e] at h
      cases h
      refine ⟨q, u, ?_, upd_same, hu⟩
      rw [List.getElem?_append_right (by rw [r.len, e]; exact Nat.le_refl _), r.len, e]
      simp
    · rw [if_neg e] at h
      obtain ⟨a, u', e1, e2, e3⟩ := r.has n o' h
      refine ⟨a, u', x.get e1, ?_, e3.mono x⟩
      rw [upd_ne (fun z => by rw [z, hq] at e2; cases e2)]
      exact e2
/-- all cells hold something -/
def Full (p : Hh) (s : S) : Prop := ∀ n, n < nxt p s → rd p s n ≠ none
theorem rd_full : Full p s := fun n hn => by
  unfold nxt at hn
  unfold rd
  by_cases h : n < p.length
  · rw [if_pos h]
    cases lookN n s.ov with
    | some o => intro z; cases z
    | none =>
      show p[n]? ≠ none
      rw [List.getElem?_eq_getElem h]
      intro z; cases z
  · rw [if_neg h, List.getElem?_eq_getElem (show n - p.length < s.loc.length by omega)]
    intro z; cases z
theorem Rep.al_ {q : Addr} {o : Ob} {u : HO} (r : Rep G ρ p s H) (hq : H q = none) (hu : RO G (ρ ++ [q]) (upd H q u) o u) : Ex ρ H (ρ ++ [q]) (upd H q u) ∧ Rep G (ρ ++ [q]) p (al s o) (upd H q u) ∧ RV G (ρ ++ [q]) (upd H q u) (.ref (nxt p s)) (.ref q) :=
  r.alloc hq (fun n e => rd_full n (by rw [← r.len]; exact (List.getElem?_eq_some_iff.mp e).1)) hu
theorem Rep.ref_none {q : Addr} (r : Rep G ρ p s H) (hq : H q = none) : q ∉ ρ := fun m => by
  obtain ⟨n, h1, e⟩ := List.getElem_of_mem m
  have e' : ρ[n]? = some q := by rw [List.getElem?_eq_getElem h1, e]
  cases h : rd p s n with
  | none => exact rd_full n (by rw [← r.len]; exact h1) h
  | some o =>
    obtain ⟨a, u, e2, e3, _⟩ := r.has n o h
    rw [e'] at e2; cases e2
    rw [hq] at e3; cases e3
theorem Ex.al {q : Addr} {u : HO} (r : Rep G ρ p s H) (hq : H q = none) : Ex ρ H (ρ ++ [q]) (upd H q u) := ⟨⟨[q], rfl⟩, fun a h n => by
  rcases List.mem_append.mp h with h | h
  · exact absurd h n
  · rw [List.mem_singleton.mp h]; exact hq, fun a o n h => by
  have nb : a ≠ q := fun e => by rw [e, hq] at h; cases h
  rw [upd_ne nb]; exact h⟩
/-- an object that is no cell -/
theorem Ex.fresh {q : Addr} {u : HO} (r : Rep G ρ p s H) (hq : H q = none) : Ex ρ H ρ (upd H q u) :=
  ⟨⟨[], by simp⟩, fun _ h n => absurd h n, fun a o n h => by rw [upd_ne (fun e => by rw [e, hq] at h; cases h)]; exact h⟩
theorem Rep.mono {H1 : Hp} (r : Rep G ρ p s H) (x : Ex ρ H ρ H1) (k : ∀ a, a ∈ ρ → H1 a = H a) : Rep G ρ p s H1 :=
  ⟨r.len, r.nd, fun n o h => by
    obtain ⟨a, u, e1, e2, e3⟩ := r.has n o h
    exact ⟨a, u, e1, by rw [k a (List.mem_of_getElem? e1)]; exact e2, e3.mono x⟩⟩
theorem Rep.fresh {q : Addr} {u : HO} (r : Rep G ρ p s H) (hq : H q = none) : Rep G ρ p s (upd H q u) :=
  r.mono (Ex.fresh r hq) fun a ha => upd_ne (fun e => r.ref_none hq (e ▸ ha))
/-- a cell written -/
theorem Rep.wr_ {n : Nat} {a : Addr} {o : Ob} {u : HO} (r : Rep G ρ p s H) (e : ρ[n]? = some a) (hu : RO G ρ (upd H a u) o u) : Ex ρ H ρ (upd H a u) ∧ Rep G ρ p (wr p s n o) (upd H a u) := by
  have ma : a ∈ ρ := List.mem_of_getElem? e
  have x : Ex ρ H ρ (upd H a u) := ⟨⟨[], by simp⟩, fun _ h n => absurd h n, fun b o n h => by
    have nb : b ≠ a := fun z => n (by rw [z]; exact ma)
    rw [upd_ne nb]; exact h⟩
  have hn : n < nxt p s := by rw [← r.len]; exact (List.getElem?_eq_some_iff.mp e).1
  refine ⟨x, ⟨by rw [nxt_wr]; exact r.len, r.nd, fun m o' h => ?_⟩⟩
  rw [rd_wr hn] at h
  by_cases em : m = n
  · rw [if_pos em] at h
    cases h
    exact ⟨a, u, by rw [em]; exact e, upd_same, hu⟩
  · rw [if_neg em] at h
    obtain ⟨b, u', e1, e2, e3⟩ := r.has m o' h
    have nb : b ≠ a := fun z => em (nodup_get r.nd e1 (by rw [z]; exact e))
    exact ⟨b, u', e1, by rw [upd_ne nb]; exact e2, e3.mono x⟩
end

/-! ### the slots -/
structure RL (G : GE) (ρ : List Addr) (H : Hp) (l : Lo) (σ : L2.St) : Prop where
  len : l.length = σ.length
  has : ∀ (i : Nat) (w : W), l[i]? = some (some w) → ∃ v, σ[i]? = some (some v) ∧ RV G ρ H w v
  inv : G.J ρ σ H
section
variable {G : GE} {ρ ρ1 : List Addr} {H H1 : Hp} {l : Lo} {σ : L2.St}
theorem RL.mono (r : RL G ρ H l σ) (x : Ex ρ H ρ1 H1) : RL G ρ1 H1 l σ := ⟨r.len, fun i w e => by
  obtain ⟨v, h1, h2⟩ := r.has i w e
  exact ⟨v, h1, h2.mono x⟩, G.jm x r.inv⟩
theorem RL.set {w : W} {v : V} (r : RL G ρ H l σ) (i : Nat) (h : RV G ρ H w v) (hh : G.hold ≠ some i) : RL G ρ H (l.set i (some w)) (σ.set i (some v)) := ⟨by simp [r.len], fun j w' e => by
  by_cases hj : i = j
  · subst hj
    by_cases hi : i < l.length
    · rw [List.getElem?_set_self hi] at e
      cases e
      exact ⟨v, List.getElem?_set_self (by rw [← r.len]; exact hi), h⟩
    · rw [List.getElem?_eq_none (by simpa using hi)] at e
      cases e
  · rw [List.getElem?_set_ne hj] at e
    obtain ⟨v', h1, h2⟩ := r.has j w' e
    exact ⟨v', by rw [List.getElem?_set_ne hj]; exact h1, h2⟩, G.js i _ hh r.inv⟩
theorem RL.delσ (r : RL G ρ H l σ) (i : Nat) (hh : G.hold ≠ some i) : RL G ρ H (l.set i none) (σ.set i none) := ⟨by simp [r.len], fun j w' e => by
  by_cases hj : i = j
  · subst hj
    by_cases hi : i < l.length
    · rw [List.getElem?_set_self hi] at e; cases e
    · rw [List.getElem?_eq_none (by simpa using hi)] at e; cases e
  · rw [List.getElem?_set_ne hj] at e
    obtain ⟨v', h1, h2⟩ := r.has j w' e
    exact ⟨v', by rw [List.getElem?_set_ne hj]; exact h1, h2⟩, G.js i _ hh r.inv⟩
end

/-! ### what is promised of a result -/
/-- an exception of the class c with its field's value w -/
def RX (G : GE) (ρ : List Addr) (H : Hp) (c : Nat) (w : W) (d : Option Addr) : Prop :=
  match (G.fld c).head? with
  | none => True
  | some f => ∃ dd v, d = some dd ∧ dd ∉ ρ ∧ H dd = some (.xd [(f, v)]) ∧ RV G ρ H w v
theorem RX.mono {G : GE} {ρ ρ1 : List Addr} {H H1 : Hp} {c : Nat} {w : W} {d : Option Addr} (x : Ex ρ H ρ1 H1) (r : RX G ρ H c w d) : RX G ρ1 H1 c w d := by
  unfold RX at *
  split
  · trivial
  · rename_i f hf
    rw [hf] at r
    obtain ⟨dd, v, e1, n, e2, q⟩ := r
    exact ⟨dd, v, e1, x.nin n e2, x.keep _ _ n e2, q.mono x⟩
section
variable (G : GE) (p : Hh) (ρ : List Addr) (H : Hp)
def PoA {α β : Type} (rel : List Addr → Hp → α → β → Prop) (r : R α) (Q : β → Hp → Prop) (E : XK) : Prop :=
  match r with
  | .ok w s' => ∀ ρ' H' v, Ex ρ H ρ' H' → Rep G ρ' p s' H' → rel ρ' H' w v → Q v H'
  | .exc c w s' => ∀ ρ' H' d, Ex ρ H ρ' H' → Rep G ρ' p s' H' → RX G ρ' H' c w d → E (.ref (G.cls c)) d H'
  | .bad => False
def PoV (r : R W) (Q : VK) (E : XK) : Prop := PoA G p ρ H (RV G) r Q E
def PoVs (r : R (List W)) (Q : List V → Hp → Prop) (E : XK) : Prop := PoA G p ρ H (RVs G) r Q E
def PoB (r : R Bool) (Q : Bool → Hp → Prop) (E : XK) : Prop := PoA G p ρ H (fun _ _ b c => b = c) r Q E
def PoS (r : RS) (D : Ends) (E : WX) : Prop :=
  match r with
  | .nx l s' => ∀ ρ' H' σ', Ex ρ H ρ' H' → Rep G ρ' p s' H' → RL G ρ' H' l σ' → D.nx σ' H'
  | .brk l s' => ∀ ρ' H' σ', Ex ρ H ρ' H' → Rep G ρ' p s' H' → RL G ρ' H' l σ' → D.bk σ' H'
  | .ct l s' => ∀ ρ' H' σ', Ex ρ H ρ' H' → Rep G ρ' p s' H' → RL G ρ' H' l σ' → D.ct σ' H'
  | .ret w s' => ∀ ρ' H' v, Ex ρ H ρ' H' → Rep G ρ' p s' H' → RV G ρ' H' w v → D.rt v H'
  | .exc c w l s' => ∀ ρ' H' d σ', Ex ρ H ρ' H' → Rep G ρ' p s' H' → RX G ρ' H' c w d → RL G ρ' H' l σ' → E (.ref (G.cls c)) d σ' H'
  | .bad => False
end
section
variable {G : GE} {p : Hh} {ρ ρ1 : List Addr} {H H1 : Hp}
theorem PoA.base {α β : Type} {rel : List Addr → Hp → α → β → Prop} {r : R α} {Q : β → Hp → Prop} {E : XK} (h : PoA G p ρ H rel r Q E) (x : Ex ρ H ρ1 H1) : PoA G p ρ1 H1 rel r Q E := by
  cases r with
  | ok w s' => exact fun ρ' H' v y => h ρ' H' v (x.trans y)
  | exc c w s' => exact fun ρ' H' d y => h ρ' H' d (x.trans y)
  | bad => exact h
theorem PoS.base {r : RS} {D : Ends} {E : WX} (h : PoS G p ρ H r D E) (x : Ex ρ H ρ1 H1) : PoS G p ρ1 H1 r D E := by
  cases r with
  | nx l s' => exact fun ρ' H' v y => h ρ' H' v (x.trans y)
  | brk l s' => exact fun ρ' H' v y => h ρ' H' v (x.trans y)
  | ct l s' => exact fun ρ' H' v y => h ρ' H' v (x.trans y)
  | ret l s' => exact fun ρ' H' v y => h ρ' H' v (x.trans y)
  | exc c w l s' => exact fun ρ' H' d σ' y => h ρ' H' d σ' (x.trans y)
  | bad => exact h
theorem PoA.imp {α β : Type} {rel : List Addr → Hp → α → β → Prop} {r : R α} {Q Q' : β → Hp → Prop} {E E' : XK} (h : PoA G p ρ H rel r Q E) (hq : ∀ v H, Q v H → Q' v H) (he : ∀ c d H, E c d H → E' c d H) : PoA G p ρ H rel r Q' E' := by
  cases r with
  | ok w s' => exact fun ρ' H' v y a b => hq _ _ (h ρ' H' v y a b)
  | exc c w s' => exact fun ρ' H' d y a b => he _ _ _ (h ρ' H' d y a b)
  | bad => exact h
end

def R.bind {α β : Type} (r : R α) (k : α → S → R β) : R β :=
  match r with
  | .ok a s => k a s
  | .exc c w s => .exc c w s
  | .bad => .bad
/-- the way of a bind: what is to be shown of the second part where the first ended -/
theorem PoA.bind {G : GE} {p : Hh} {ρ : List Addr} {H : Hp} {α β α' β' : Type} {rel : List Addr → Hp → α → β → Prop} {rel' : List Addr → Hp → α' → β' → Prop} {r : R α} {k : α → S → R α'} {Q : β → Hp → Prop} {Q' : β' → Hp → Prop} {E : XK}
    (h : PoA G p ρ H rel' (r.bind k) Q' E) (hk : ∀ a s' ρ' H' v, Ex ρ H ρ' H' → Rep G ρ' p s' H' → rel ρ' H' a v → PoA G p ρ' H' rel' (k a s') Q' E → Q v H') : PoA G p ρ H rel r Q E := by
  cases r with
  | ok a s => exact fun ρ' H' v x y z => hk a s ρ' H' v x y z (PoA.base h x)
  | exc c w s => exact h
  | bad => exact h
end CC
set_option Elab.async false
set_option linter.all false
set_option maxRecDepth 100000
/-! CCRen: cells renamed; a call is given only what its arguments speak of -/
namespace CC
open PySem PySem.Spec PyProof.Rows L2

/-! ### refs to new cells -/
mutual
/-- the new cells (numbered from n on) that a value speaks of -/
def refsW (n : Nat) : W → List Nat
  | .ref m => if m < n then [] else [m - n]
  | .tup ws => refsWs n ws
  | _ => []
def refsWs (n : Nat) : List W → List Nat
  | [] => []
  | w :: r => refsW n w ++ refsWs n r
end
def refsOb (n : Nat) : Ob → List Nat
  | .lst ws => refsWs n ws
  | .frz _ => []
  | .dct kvs => refsWs n (kvs.map (·.2))
  | .dtt kvs => refsWs n (kvs.map (·.2))
  | .ins _ fs => refsWs n (fs.map (·.2))
def ixOf (m : Nat) : List Nat → Nat → Option Nat
  | [], _ => none
  | a :: r, i => if a = m then some i else ixOf m r (i + 1)
mutual
def rnW (n : Nat) (keep : List Nat) : W → Option W
  | .ref m => if m < n then some (.ref m) else (ixOf (m - n) keep 0).map fun j => .ref (n + j)
  | .tup ws => (rnWs n keep ws).map .tup
  | .non => some .non
  | .bl b => some (.bl b)
  | .int i => some (.int i)
  | .str z => some (.str z)
def rnWs (n : Nat) (keep : List Nat) : List W → Option (List W)
  | [] => some []
  | w :: r => match rnW n keep w with
    | none => none
    | some w' => (rnWs n keep r).map (w' :: ·)
end
def rnOb (n : Nat) (keep : List Nat) : Ob → Option Ob
  | .lst ws => (rnWs n keep ws).map .lst
  | .frz ns => some (.frz ns)
  | .dct kvs => (rnWs n keep (kvs.map (·.2))).map fun vs => .dct ((kvs.map (·.1)).zip vs)
  | .dtt kvs => (rnWs n keep (kvs.map (·.2))).map fun vs => .dtt ((kvs.map (·.1)).zip vs)
  | .ins c fs => (rnWs n keep (fs.map (·.2))).map fun vs => .ins c ((fs.map (·.1)).zip vs)
def closeK (n : Nat) (loc : List Ob) : Nat → List Nat → List Nat → List Nat
  | 0, _, keep => keep
  | _ + 1, [], keep => keep
  | f + 1, m :: todo, keep => if m ∈ keep then closeK n loc f todo keep else
      match loc[m]? with
      | none => closeK n loc f todo keep
      | some o => closeK n loc f (refsOb n o ++ todo) (keep ++ [m])
/-! ### a call: its cells are those that the arguments speak of, numbered anew -/
def closeR (p : Hh) (s : S) : Nat → List Nat → List Nat → List Nat
  | 0, _, keep => keep
  | _ + 1, [], keep => keep
  | f + 1, m :: todo, keep => if m ∈ keep then closeR p s f todo keep else
      match rd p s m with
      | none => closeR p s f todo keep
      | some o => closeR p s f (refsOb 0 o ++ todo) (keep ++ [m])
def rnCells (p : Hh) (s : S) (keep : List Nat) : List Nat → Option Hh
  | [] => some []
  | m :: r => match rd p s m with
    | none => none
    | some o => match rnOb 0 keep o, rnCells p s keep r with
      | some o', some r' => some (o' :: r')
      | _, _ => none
mutual
/-- back: the callee's cell j in the caller's numbers (new ones from b on) -/
def upW (keep : List Nat) (b : Nat) : W → W
  | .ref j => match keep[j]? with
    | some m => .ref m
    | none => .ref (b + (j - keep.length))
  | .tup ws => .tup (upWs keep b ws)
  | .non => .non
  | .bl x => .bl x
  | .int i => .int i
  | .str z => .str z
def upWs (keep : List Nat) (b : Nat) : List W → List W
  | [] => []
  | w :: r => upW keep b w :: upWs keep b r
end
def upOb (keep : List Nat) (b : Nat) : Ob → Ob
  | .lst ws => .lst (upWs keep b ws)
  | .frz ns => .frz ns
  | .dct kvs => .dct ((kvs.map (·.1)).zip (upWs keep b (kvs.map (·.2))))
  | .dtt kvs => .dtt ((kvs.map (·.1)).zip (upWs keep b (kvs.map (·.2))))
  | .ins c fs => .ins c ((fs.map (·.1)).zip (upWs keep b (fs.map (·.2))))
def upObs (keep : List Nat) (b : Nat) : List Ob → List Ob
  | [] => []
  | o :: r => upOb keep b o :: upObs keep b r
def setUp (p : Hh) (keep : List Nat) (b : Nat) : List (Nat × Ob) → S → S
  | [], s => s
  | (j, o) :: r, s => match keep[j]? with
    | some n => wr p (setUp p keep b r s) n (upOb keep b o)
    | none => setUp p keep b r s
/-- the caller's cells behind the call -/
def upS (p : Hh) (keep : List Nat) (s s' : S) : S := ⟨(setUp p keep (nxt p s) s'.ov s).ov, (setUp p keep (nxt p s) s'.ov s).loc ++ upObs keep (nxt p s) s'.loc⟩
def callK (F : Hh → List W → R W) (p : Hh) (xs : List W) (s : S) (keep : List Nat) : R W := match rnWs 0 keep xs, rnCells p s keep keep with
  | some ys, some pc => (match F pc ys with
    | .ok w s' => .ok (upW keep (nxt p s) w) (upS p keep s s')
    | .exc c w s' => .exc c (upW keep (nxt p s) w) (upS p keep s s')
    | .bad => .bad)
  | _, _ => .bad
def callF (F : Hh → List W → R W) (p : Hh) (xs : List W) (s : S) : R W := callK F p xs s (match refsWs 0 xs with
  | [] => []
  | r => closeR p s 100000 r [])
end CC
set_option Elab.async false
set_option linter.all false
set_option maxRecDepth 100000
/-! CCRules: expressions, tests, arguments, statements, loops, comprehensions, calls -/
namespace CC
open PySem PySem.Spec PyProof.Rows L2

/-! ### primitive results -/
abbrev O2 := Option (W × S)
def R.ofO : O2 → R W
  | some (w, s) => .ok w s
  | none => .bad
def PoO (G : GE) (p : Hh) (ρ : List Addr) (H : Hp) (r : O2) (Q : VK) : Prop :=
  match r with
  | some (w, s') => ∀ ρ' H' v, Ex ρ H ρ' H' → Rep G ρ' p s' H' → RV G ρ' H' w v → Q v H'
  | none => False
theorem po_of {G : GE} {p : Hh} {ρ : List Addr} {H : Hp} {r : O2} {Q : VK} {E : XK} (h : PoV G p ρ H (R.ofO r) Q E) : PoO G p ρ H r Q := by
  cases r with
  | none => exact h
  | some q => obtain ⟨w, s⟩ := q; exact h
/-- a primitive value, nothing changed -/
theorem po_v {G : GE} {p : Hh} {ρ : List Addr} {H : Hp} {s : S} {w : W} {v : V} {Q : VK} (h : PoO G p ρ H (some (w, s)) Q) (r : Rep G ρ p s H) (q : RV G ρ H w v) : Q v H := h ρ H v Ex.rfl' r q

/-! ### judgements -/
section
variable (G : GE) (p : Hh) (E : WX)
def tI (m : Lo → S → R W) : TE := fun σ H Q => ∃ ρ l s, RL G ρ H l σ ∧ Rep G ρ p s H ∧ PoV G p ρ H (m l s) Q (fun c d H' => E c d σ H')
def tT (m : Lo → S → R Bool) : TT := fun σ H Q => ∃ ρ l s, RL G ρ H l σ ∧ Rep G ρ p s H ∧ PoB G p ρ H (m l s) Q (fun c d H' => E c d σ H')
def tA (m : Lo → S → R (List W)) : TA := fun σ H Q => ∃ ρ l s, RL G ρ H l σ ∧ Rep G ρ p s H ∧ PoVs G p ρ H (m l s) Q (fun c d H' => E c d σ H')
def tS (m : Lo → S → RS) : TS := fun D σ H => ∃ ρ l s, RL G ρ H l σ ∧ Rep G ρ p s H ∧ PoS G p ρ H (m l s) D E
def PoG (ρ : List Addr) (H : Hp) (r : Option (Lo × S)) (Q : L2.St → Hp → Prop) : Prop := match r with
  | some (l, s') => ∀ ρ' H' σ', Ex ρ H ρ' H' → Rep G ρ' p s' H' → RL G ρ' H' l σ' → Q σ' H'
  | none => False
def tG (m : W → Lo → S → Option (Lo × S)) : TG := fun v σ H Q => ∃ ρ l s w, RL G ρ H l σ ∧ Rep G ρ p s H ∧ RV G ρ H w v ∧ PoG G p ρ H (m w l s) Q
def tGs (m : List W → Lo → S → Option (Lo × S)) : TGs := fun vs σ H Q => ∃ ρ l s ws, RL G ρ H l σ ∧ Rep G ρ p s H ∧ RVs G ρ H ws vs ∧ PoG G p ρ H (m ws l s) Q
variable (X : Cx)
def SE (e : Expr) (m : Lo → S → R W) : Prop := PE X e (tI G p E m)
def ST (e : Expr) (m : Lo → S → R Bool) : Prop := PT X e (tT G p E m)
def SW (e : Expr) (m : Lo → S → R Bool) : Prop := PW X e (tT G p E m)
def SA (es : List Expr) (m : Lo → S → R (List W)) : Prop := PA X es (tA G p E m)
def SS (st : Stmt) (m : Lo → S → RS) : Prop := PS X st (tS G p E m)
def SB (st : List Stmt) (m : Lo → S → RS) : Prop := PSs X st (tS G p E m)
def SG (tg : Expr) (m : W → Lo → S → Option (Lo × S)) : Prop := PG X tg (tG G p m)
def SGs (tgs : List Expr) (m : List W → Lo → S → Option (Lo × S)) : Prop := PGs X tgs (tGs G p m)
end
/-- the context -/
structure Cn (X : Cx) (E : WX) (k : Nat) : Prop where
  calm : X.calm = true
  room : Room k X.A
  tk : Takes X E
  own : PassesOwn (model X.prog X.w) X.A X.env X.xe
  nd : X.N.Nodup
  gd : X.A.guards = some []

section
variable {X : Cx}
theorem PE_imp {e : Expr} {t t' : TE} (h : PE X e t) (i : ∀ σ H Q, t' σ H Q → t σ H Q) : PE X e t' := ⟨fun pins s σ H Q I w => h.run pins s σ H Q I (i σ H Q w)⟩
theorem PT_imp {e : Expr} {t t' : TT} (h : PT X e t) (i : ∀ σ H Q, t' σ H Q → t σ H Q) : PT X e t' := ⟨fun pins s σ H Q I w => h.run pins s σ H Q I (i σ H Q w)⟩
theorem PW_imp {e : Expr} {t t' : TT} (h : PW X e t) (i : ∀ σ H Q, t' σ H Q → t σ H Q) : PW X e t' := ⟨fun wh pins s σ H Q I w => h.run wh pins s σ H Q I (i σ H Q w)⟩
theorem PA_imp {es : List Expr} {t t' : TA} (h : PA X es t) (i : ∀ σ H Q, t' σ H Q → t σ H Q) : PA X es t' := ⟨fun pos pins s σ H Q I w => h.run pos pins s σ H Q I (i σ H Q w)⟩
theorem PS_imp {e : Stmt} {t t' : TS} (h : PS X e t) (i : ∀ D σ H, t' D σ H → t D σ H) : PS X e t' := ⟨fun pins s σ H D I w => h.run pins s σ H D I (i D σ H w)⟩
theorem PSs_imp {e : List Stmt} {t t' : TS} (h : PSs X e t) (i : ∀ D σ H, t' D σ H → t D σ H) : PSs X e t' := ⟨fun pins s σ H D I w => h.run pins s σ H D I (i D σ H w)⟩
theorem PG_imp {e : Expr} {t t' : TG} (h : PG X e t) (i : ∀ v σ H Q, t' v σ H Q → t v σ H Q) : PG X e t' := ⟨fun pins s σ H v u Q I r w => h.run pins s σ H v u Q I r (i v σ H Q w)⟩
theorem PGs_imp {e : List Expr} {t t' : TGs} (h : PGs X e t) (i : ∀ v σ H Q, t' v σ H Q → t v σ H Q) : PGs X e t' := ⟨fun pins s σ H v u Q I r w => h.run pins s σ H v u Q I r (i v σ H Q w)⟩
end

/-! ### mirrors of expressions -/
def eVar (i : Nat) : Lo → S → R W := fun l s => match l[i]? with
  | some (some w) => .ok w s
  | _ => .bad
def eC (w : W) : Lo → S → R W := fun _ s => .ok w s
def eBin (f : Hh → W → W → S → O2) (p : Hh) (ma mb : Lo → S → R W) : Lo → S → R W := fun l s => (ma l s).bind fun x s1 => (mb l s1).bind fun y s2 => R.ofO (f p x y s2)
def eUn (f : Hh → W → S → O2) (p : Hh) (ma : Lo → S → R W) : Lo → S → R W := fun l s => (ma l s).bind fun x s1 => R.ofO (f p x s1)
def aNil : Lo → S → R (List W) := fun _ s => .ok [] s
def aCons (ma : Lo → S → R W) (mr : Lo → S → R (List W)) : Lo → S → R (List W) := fun l s => (ma l s).bind fun x s1 => (mr l s1).bind fun xs s2 => .ok (x :: xs) s2
def eTup (mr : Lo → S → R (List W)) : Lo → S → R W := fun l s => (mr l s).bind fun xs s1 => if xs.length ≤ 1000000 then .ok (.tup xs) s1 else .bad
def eLst (p : Hh) (mr : Lo → S → R (List W)) : Lo → S → R W := fun l s => (mr l s).bind fun xs s1 => if xs.length ≤ 1000000 then .ok (.ref (nxt p s1)) (al s1 (.lst xs)) else .bad
/-- a built-in by its rule on values -/
def eB (f : Hh → List W → S → O2) (p : Hh) (mr : Lo → S → R (List W)) : Lo → S → R W := fun l s => (mr l s).bind fun xs s1 => R.ofO (f p xs s1)
/-- f(e, ..), ds the defaults that fill up -/
def eCall (F : Hh → List W → R W) (p : Hh) (ds : List W) (mr : Lo → S → R (List W)) : Lo → S → R W := fun l s => (mr l s).bind fun xs s1 => callF F p (xs ++ ds) s1
/-- of the class c? -/
def isC (p : Hh) (s : S) (c : Nat) : W → Bool
  | .ref n => (match rd p s n with | some (.ins d _) => d == c | _ => false)
  | _ => false
/-- o.m(e, ..), o of the class c -/
def eMeth (c : Nat) (F : Hh → List W → R W) (p : Hh) (ds : List W) (mo : Lo → S → R W) (mr : Lo → S → R (List W)) : Lo → S → R W := fun l s => (mo l s).bind fun o s1 => match isC p s1 c o with
  | true => (mr l s1).bind fun xs s2 => callF F p (o :: (xs ++ ds)) s2
  | false => .bad
/-- an object that may change: a cell -/
def makeM (c : Nat) (F : Hh → List W → R W) (p : Hh) (xs : List W) (s : S) : R W := match callF F p (.ref (nxt p s) :: xs) (al s (.ins c [])) with
  | .ok .non s1 => .ok (.ref (nxt p s)) s1
  | .exc c w s => .exc c w s
  | _ => .bad
def eMakeM (c : Nat) (F : Hh → List W → R W) (p : Hh) (ds : List W) (mr : Lo → S → R (List W)) : Lo → S → R W := fun l s => (mr l s).bind fun xs s1 => makeM c F p (xs ++ ds) s1
def eIf (mt : Lo → S → R Bool) (ma mb : Lo → S → R W) : Lo → S → R W := fun l s => (mt l s).bind fun c s1 => match c with
  | true => ma l s1
  | false => mb l s1
def eAndV (ma mb : Lo → S → R W) : Lo → S → R W := fun l s => (ma l s).bind fun x s1 => match x with
  | .bl true => mb l s1
  | .bl false => .ok (.bl false) s1
  | _ => .bad
def eOrV (ma mb : Lo → S → R W) : Lo → S → R W := fun l s => (ma l s).bind fun x s1 => match x with
  | .bl false => mb l s1
  | .bl true => .ok (.bl true) s1
  | _ => .bad
def eNotV (ma : Lo → S → R W) : Lo → S → R W := fun l s => (ma l s).bind fun x s1 => match x with
  | .bl c => .ok (.bl (!c)) s1
  | _ => .bad
def tVal (ma : Lo → S → R W) : Lo → S → R Bool := fun l s => (ma l s).bind fun x s1 => match x with
  | .bl c => .ok c s1
  | _ => .bad
def tAndT (ma mb : Lo → S → R Bool) : Lo → S → R Bool := fun l s => (ma l s).bind fun c s1 => match c with
  | true => mb l s1
  | false => .ok false s1
def tOrT (ma mb : Lo → S → R Bool) : Lo → S → R Bool := fun l s => (ma l s).bind fun c s1 => match c with
  | false => mb l s1
  | true => .ok true s1
def tNotT (ma : Lo → S → R Bool) : Lo → S → R Bool := fun l s => (ma l s).bind fun c s1 => .ok (!c) s1
/-- a op b op' c -/
def eChain (f f' : Hh → W → W → S → O2) (p : Hh) (ma mb mc : Lo → S → R W) : Lo → S → R W := fun l s => (ma l s).bind fun x s1 => (mb l s1).bind fun y s2 => (R.ofO (f p x y s2)).bind fun z s3 => match z with
  | .bl true => (mc l s3).bind fun u s4 => R.ofO (f' p y u s4)
  | .bl false => .ok (.bl false) s3
  | _ => .bad

/-! ### mirrors of statements -/
def sNx : Lo → S → RS := fun l s => .nx l s
def sSeq (m k : Lo → S → RS) : Lo → S → RS := fun l s => match m l s with
  | .nx l1 s1 => k l1 s1
  | r => r
def R.toS (l : Lo) (r : R W) (k : W → S → RS) : RS := match r with
  | .ok w s => k w s
  | .exc c w s => .exc c w l s
  | .bad => .bad
def sEx (me : Lo → S → R W) : Lo → S → RS := fun l s => (me l s).toS l fun _ s1 => .nx l s1
def sRet (me : Lo → S → R W) : Lo → S → RS := fun l s => (me l s).toS l fun w s1 => .ret w s1
def sRetN : Lo → S → RS := fun _ s => .ret .non s
def sBrk : Lo → S → RS := fun l s => .brk l s
def sCt : Lo → S → RS := fun l s => .ct l s
abbrev OG := Option (Lo × S)
def nxO : OG → RS
  | some (l, s) => .nx l s
  | none => .bad
def sAsg (g : W → Lo → S → OG) (me : Lo → S → R W) : Lo → S → RS := fun l s => (me l s).toS l fun w s1 => nxO (g w l s1)
def gNm (i : Nat) : W → Lo → S → OG := fun w l s => some (l.set i (some w), s)
def sIf (mt : Lo → S → R Bool) (ma mb : Lo → S → RS) : Lo → S → RS := fun l s => match mt l s with
  | .ok true s1 => ma l s1
  | .ok false s1 => mb l s1
  | .exc c w s1 => .exc c w l s1
  | .bad => .bad
def sAug (f : Hh → W → W → S → O2) (p : Hh) (i : Nat) (me : Lo → S → R W) : Lo → S → RS := fun l s => match l[i]? with
  | some (some x) => (me l s).toS l fun y s1 => match f p x y s1 with
    | some (z, s2) => .nx (l.set i (some z)) s2
    | none => .bad
  | _ => .bad
def sPar2 (i j : Nat) (mr : Lo → S → R (List W)) : Lo → S → RS := fun l s => match mr l s with
  | .ok [x, y] s1 => .nx ((l.set i (some x)).set j (some y)) s1
  | .exc c w s1 => .exc c w l s1
  | _ => .bad
def gsNil : List W → Lo → S → OG := fun ws l s => match ws with
  | [] => some (l, s)
  | _ => none
def gsCons (g : W → Lo → S → OG) (r : List W → Lo → S → OG) : List W → Lo → S → OG := fun ws l s => match ws with
  | w :: ws' => (match g w l s with
    | some (l1, s1) => r ws' l1 s1
    | none => none)
  | _ => none
def gTupT (n : Nat) (r : List W → Lo → S → OG) : W → Lo → S → OG := fun w l s => match w with
  | .tup ws => if ws.length = n then r ws l s else none
  | _ => none
/-- o[i] = v by values -/
def gSubT (f : Hh → W → W → W → S → Option S) (p : Hh) (mo mi : Lo → S → R W) : W → Lo → S → OG := fun w l s => match mo l s with
  | .ok o s1 => (match mi l s1 with
    | .ok i s2 => (match f p o i w s2 with
      | some s3 => some (l, s3)
      | none => none)
    | _ => none)
  | _ => none

/-! ### rules -/
section
variable {G : GE} {p : Hh} {E : WX} {X : Cx} {k : Nat} {pos : Pos}
theorem se_var (i : Nat) {x : Str} (hN : X.N[i]? = some x := by rfl) (hv : Vis X.env.scope x := by first | exact Or.inl rfl | exact Or.inr (Or.inl rfl) | exact Or.inr (Or.inr rfl)) (hd : (x == ("__debug__" : Str)) = false := by decide)
    (hcd : (x == ("__classdict__" : Str)) = false := by decide) : SE G p E X (.Name x pos) (eVar i) :=
  PE_imp (pe_var hN hv hd hcd) fun σ H Q ⟨ρ, l, s, rl, rp, h⟩ => by
    unfold eVar at h
    cases e : l[i]? with
    | none => rw [e] at h; exact h.elim
    | some q => cases q with
      | none => rw [e] at h; exact h.elim
      | some w =>
        rw [e] at h
        obtain ⟨v, e1, r⟩ := rl.has i w e
        exact ⟨v, e1, h ρ H v Ex.rfl' rp r⟩
theorem se_of {e : Expr} {v : V} {w : W} (h : PE X e (tC v)) (r : ∀ ρ H, RV G ρ H w v) : SE G p E X e (eC w) :=
  PE_imp h fun σ H Q ⟨ρ, l, s, rl, rp, h⟩ => h ρ H v Ex.rfl' rp (r ρ H)
theorem se_int {i : Int} {j} : SE G p E X (.Constant (.int i) j pos) (eC (.int i)) := se_of pe_int fun _ _ => .int i
theorem se_bl {b : Bool} {j} : SE G p E X (.Constant (.bool b) j pos) (eC (.bl b)) := se_of pe_bl fun _ _ => .bl b
theorem se_non {j} : SE G p E X (.Constant .none j pos) (eC .non) := se_of pe_non fun _ _ => .non
theorem se_str {x : Str} {j} : SE G p E X (.Constant (.str x) j pos) (eC (.str x)) := se_of pe_str fun _ _ => .str x
theorem se_glob {x : Str} {u : Value} {v : V} {w : W} (hm : X.mg x = some u) (r : RelV v u) (q : ∀ ρ H, RV G ρ H w v) (hg : Gl X x := by rfl) (hd : (x == ("__debug__" : Str)) = false := by decide) : SE G p E X (.Name x pos) (eC w) :=
  se_of (pe_glob hg hm r hd) q

def OpI (G : GE) (X : Cx) (F : Value → Value → Sem Value) (f : Hh → W → W → S → O2) : Prop :=
  ∀ p, OpR X F (fun v u H Q => ∃ ρ s x y, Rep G ρ p s H ∧ RV G ρ H x v ∧ RV G ρ H y u ∧ PoO G p ρ H (f p x y s) Q)
def UnI (G : GE) (X : Cx) (F : Value → Sem Value) (f : Hh → W → S → O2) : Prop :=
  ∀ p, UnR X F (fun v H Q => ∃ ρ s x, Rep G ρ p s H ∧ RV G ρ H x v ∧ PoO G p ρ H (f p x s) Q)
def CallI (G : GE) (X : Cx) (F : Value) (f : Hh → List W → S → O2) : Prop :=
  ∀ p, CallR X F (fun vs H Q => ∃ ρ s xs, Rep G ρ p s H ∧ RVs G ρ H xs vs ∧ PoO G p ρ H (f p xs s) Q)

variable {a b c o i : Expr} {ma mb mc mo mi : Lo → S → R W} {es : List Expr} {mr : Lo → S → R (List W)}
theorem bin_way {f : Hh → W → W → S → O2} {σ : L2.St} {H : Hp} {Q : VK} (h : tI G p E (eBin f p ma mb) σ H Q) :
    tOp (fun v u H Q => ∃ ρ s x y, Rep G ρ p s H ∧ RV G ρ H x v ∧ RV G ρ H y u ∧ PoO G p ρ H (f p x y s) Q) (tI G p E ma) (tI G p E mb) σ H Q := by
  obtain ⟨ρ, l, s, rl, rp, h⟩ := h
  exact ⟨ρ, l, s, rl, rp, PoA.bind h fun x s1 ρ1 H1 v x1 rp1 rv1 h1 => ⟨ρ1, l, s1, rl.mono x1, rp1, PoA.bind h1 fun y s2 ρ2 H2 u x2 rp2 rv2 h2 => ⟨ρ2, s2, x, y, rp2, rv1.mono x2, rv2, po_of h2⟩⟩⟩
theorem se_bin {op : Operator} {f : Hh → W → W → S → O2} (ho : OpI G X (binaryOp op) f) (ha : SE G p E X a ma) (hb : SE G p E X b mb) : SE G p E X (.BinOp a op b pos) (eBin f p ma mb) :=
  PE_imp (pe_op (ho p) ha hb) fun σ H Q h => bin_way h
theorem se_cmp {op : CmpOp} {f : Hh → W → W → S → O2} (ho : OpI G X (compareOp op) f) (ha : SE G p E X a ma) (hb : SE G p E X b mb) (hm : behindInMarks op b = false := by first | rfl | exact nomark _) : SE G p E X (.Compare a [op] [b] pos) (eBin f p ma mb) :=
  PE_imp (pe_cmpR (ho p) ha hb hm) fun σ H Q h => bin_way h
theorem se_un {op : UnaryOp} {f : Hh → W → S → O2} (ho : UnI G X (unaryOp op) f) (ha : SE G p E X a ma) : SE G p E X (.UnaryOp op a pos) (eUn f p ma) :=
  PE_imp (pe_un (ho p) ha) fun σ H Q ⟨ρ, l, s, rl, rp, h⟩ => ⟨ρ, l, s, rl, rp, PoA.bind h fun x s1 ρ1 H1 v x1 rp1 rv1 h1 => ⟨ρ1, s1, x, rp1, rv1, po_of h1⟩⟩
/-- tests -/
theorem st_val (ha : SE G p E X a ma) (he : ∀ whole, isTrue a X.env whole = (do let v ← whole; standAt a.pos; holding [v] (truthy v)) := by intro _; rfl) : ST G p E X a (tVal ma) :=
  PT_imp (pt_val ha he) fun σ H Q ⟨ρ, l, s, rl, rp, h⟩ => ⟨ρ, l, s, rl, rp, PoA.bind h fun x s1 ρ1 H1 v x1 rp1 rv1 h1 => by
    cases rv1 <;> first | exact h1.elim | skip
    exact ⟨_, rfl, h1 ρ1 H1 _ Ex.rfl' rp1 rfl⟩⟩
theorem st_cmp {op : CmpOp} {f : Hh → W → W → S → O2} (ho : OpI G X (compareOp op) f) (ha : SE G p E X a ma) (hb : SE G p E X b mb) (hm : behindInMarks op b = false := by first | rfl | exact nomark _) : ST G p E X (.Compare a [op] [b] pos) (tVal (eBin f p ma mb)) :=
  PT_imp (pt_cmpR (ho p) ha hb hm) fun σ H Q ⟨ρ, l, s, rl, rp, h⟩ => by
    refine bin_way (E := E) ⟨ρ, l, s, rl, rp, ?_⟩
    refine PoA.bind h fun x s1 ρ1 H1 v x1 rp1 rv1 h1 => ?_
    cases rv1 <;> first | exact h1.elim | skip
    exact ⟨_, rfl, h1 ρ1 H1 _ Ex.rfl' rp1 rfl⟩
theorem chain_way {f f' : Hh → W → W → S → O2} {σ : L2.St} {H : Hp} {Q : VK} (h : tI G p E (eChain f f' p ma mb mc) σ H Q) :
    tChain (fun v u H Q => ∃ ρ s x y, Rep G ρ p s H ∧ RV G ρ H x v ∧ RV G ρ H y u ∧ PoO G p ρ H (f p x y s) Q) (fun v u H Q => ∃ ρ s x y, Rep G ρ p s H ∧ RV G ρ H x v ∧ RV G ρ H y u ∧ PoO G p ρ H (f' p x y s) Q) (tI G p E ma) (tI G p E mb) (tI G p E mc) σ H Q := by
  obtain ⟨ρ, l, s, rl, rp, h⟩ := h
  refine ⟨ρ, l, s, rl, rp, PoA.bind h fun x s1 ρ1 H1 v x1 rp1 rv1 h1 => ⟨ρ1, l, s1, rl.mono x1, rp1, PoA.bind h1 fun y s2 ρ2 H2 u x2 rp2 rv2 h2 => ⟨ρ2, s2, x, y, rp2, rv1.mono x2, rv2, po_of (E := fun c d H' => E c d σ H') (PoA.bind h2 fun z s3 ρ3 H3 t x3 rp3 rv3 h3 => ?_)⟩⟩⟩
  cases rv3 <;> first | exact h3.elim | skip
  rename_i bb
  cases bb with
  | false => exact ⟨false, rfl, h3 ρ3 H3 _ Ex.rfl' rp3 (.bl false)⟩
  | true => exact ⟨true, rfl, ρ3, l, s3, ((rl.mono x1).mono x2).mono x3, rp3, PoA.bind h3 fun u s4 ρ4 H4 r x4 rp4 rv4 h4 => ⟨ρ4, s4, y, u, rp4, (rv2.mono x3).mono x4, rv4, po_of h4⟩⟩
theorem se_chain {op op' : CmpOp} {f f' : Hh → W → W → S → O2} (ho : OpI G X (compareOp op) f) (ho' : OpI G X (compareOp op') f') (ha : SE G p E X a ma) (hb : SE G p E X b mb) (hc : SE G p E X c mc)
    (hm : lastMarks [op, op'] [b, c] = false := by with_unfolding_all rfl) : SE G p E X (.Compare a [op, op'] [b, c] pos) (eChain f f' p ma mb mc) :=
  PE_imp (pe_chain (ho p) (ho' p) ha hb hc hm) fun σ H Q h => chain_way h
theorem st_chain {op op' : CmpOp} {f f' : Hh → W → W → S → O2} (ho : OpI G X (compareOp op) f) (ho' : OpI G X (compareOp op') f') (ha : SE G p E X a ma) (hb : SE G p E X b mb) (hc : SE G p E X c mc)
    (hm : lastMarks [op, op'] [b, c] = false := by with_unfolding_all rfl) : ST G p E X (.Compare a [op, op'] [b, c] pos) (tVal (eChain f f' p ma mb mc)) :=
  PT_imp (pt_chain (ho p) (ho' p) ha hb hc hm) fun σ H Q ⟨ρ, l, s, rl, rp, h⟩ => by
    refine chain_way (E := E) ⟨ρ, l, s, rl, rp, ?_⟩
    refine PoA.bind h fun x s1 ρ1 H1 v x1 rp1 rv1 h1 => ?_
    cases rv1 <;> first | exact h1.elim | skip
    exact ⟨_, rfl, h1 ρ1 H1 _ Ex.rfl' rp1 rfl⟩
variable {ta tb : Lo → S → R Bool} {rest : List Expr}
theorem st_w (h : SW G p E X a ta) : ST G p E X a ta := PW.pt h
theorem sw_and1 (h : ST G p E X a ta) : SW G p E X (.BoolOp .And [a] pos) ta := pw_and1 h
theorem sw_or1 (h : ST G p E X a ta) : SW G p E X (.BoolOp .Or [a] pos) ta := pw_or1 h
theorem sw_and (ha : ST G p E X a ta) (hb : SW G p E X (.BoolOp .And (b :: rest) pos) tb) : SW G p E X (.BoolOp .And (a :: b :: rest) pos) (tAndT ta tb) :=
  PW_imp (pw_and ha hb) fun σ H Q ⟨ρ, l, s, rl, rp, h⟩ => ⟨ρ, l, s, rl, rp, PoA.bind h fun x s1 ρ1 H1 v x1 rp1 rv1 h1 => by
    cases rv1
    cases x with
    | true => exact ⟨ρ1, l, s1, rl.mono x1, rp1, h1⟩
    | false => exact h1 ρ1 H1 _ Ex.rfl' rp1 rfl⟩
theorem sw_or (ha : ST G p E X a ta) (hb : SW G p E X (.BoolOp .Or (b :: rest) pos) tb) : SW G p E X (.BoolOp .Or (a :: b :: rest) pos) (tOrT ta tb) :=
  PW_imp (pw_or ha hb) fun σ H Q ⟨ρ, l, s, rl, rp, h⟩ => ⟨ρ, l, s, rl, rp, PoA.bind h fun x s1 ρ1 H1 v x1 rp1 rv1 h1 => by
    cases rv1
    cases x with
    | false => exact ⟨ρ1, l, s1, rl.mono x1, rp1, h1⟩
    | true => exact h1 ρ1 H1 _ Ex.rfl' rp1 rfl⟩
theorem st_not (ha : ST G p E X a ta) : ST G p E X (.UnaryOp .Not a pos) (tNotT ta) :=
  PT_imp (pt_not ha) fun σ H Q ⟨ρ, l, s, rl, rp, h⟩ => ⟨ρ, l, s, rl, rp, PoA.bind h fun x s1 ρ1 H1 v x1 rp1 rv1 h1 => by
    cases rv1
    exact h1 ρ1 H1 _ Ex.rfl' rp1 rfl⟩
theorem se_if (hc : ST G p E X c ta) (ha : SE G p E X a ma) (hb : SE G p E X b mb) : SE G p E X (.IfExp c a b pos) (eIf ta ma mb) :=
  PE_imp (pe_ifExp hc ha hb) fun σ H Q ⟨ρ, l, s, rl, rp, h⟩ => ⟨ρ, l, s, rl, rp, PoA.bind h fun x s1 ρ1 H1 v x1 rp1 rv1 h1 => by
    cases rv1
    cases x with
    | true => exact ⟨ρ1, l, s1, rl.mono x1, rp1, h1⟩
    | false => exact ⟨ρ1, l, s1, rl.mono x1, rp1, h1⟩⟩
theorem se_one {op} (h : SE G p E X a ma) : SE G p E X (.BoolOp op [a] pos) ma := pe_one h
theorem se_and (ha : SE G p E X a ma) (hb : SE G p E X (.BoolOp .And (b :: rest) pos) mb) : SE G p E X (.BoolOp .And (a :: b :: rest) pos) (eAndV ma mb) :=
  PE_imp (pe_and ha hb) fun σ H Q ⟨ρ, l, s, rl, rp, h⟩ => ⟨ρ, l, s, rl, rp, PoA.bind h fun x s1 ρ1 H1 v x1 rp1 rv1 h1 => by
    cases rv1 <;> first | exact h1.elim | skip
    rename_i bb
    cases bb with
    | true => exact ⟨true, rfl, ρ1, l, s1, rl.mono x1, rp1, h1⟩
    | false => exact ⟨false, rfl, h1 ρ1 H1 _ Ex.rfl' rp1 (.bl false)⟩⟩
theorem se_or (ha : SE G p E X a ma) (hb : SE G p E X (.BoolOp .Or (b :: rest) pos) mb) : SE G p E X (.BoolOp .Or (a :: b :: rest) pos) (eOrV ma mb) :=
  PE_imp (pe_or ha hb) fun σ H Q ⟨ρ, l, s, rl, rp, h⟩ => ⟨ρ, l, s, rl, rp, PoA.bind h fun x s1 ρ1 H1 v x1 rp1 rv1 h1 => by
    cases rv1 <;> first | exact h1.elim | skip
    rename_i bb
    cases bb with
    | false => exact ⟨false, rfl, ρ1, l, s1, rl.mono x1, rp1, h1⟩
    | true => exact ⟨true, rfl, h1 ρ1 H1 _ Ex.rfl' rp1 (.bl true)⟩⟩
theorem se_not (ha : SE G p E X a ma) : SE G p E X (.UnaryOp .Not a pos) (eNotV ma) :=
  PE_imp (pe_not ha) fun σ H Q ⟨ρ, l, s, rl, rp, h⟩ => ⟨ρ, l, s, rl, rp, PoA.bind h fun x s1 ρ1 H1 v x1 rp1 rv1 h1 => by
    cases rv1 <;> first | exact h1.elim | skip
    exact ⟨_, rfl, h1 ρ1 H1 _ Ex.rfl' rp1 (.bl _)⟩⟩
/-! arguments, displays -/
theorem sa_nil : SA G p E X [] aNil := PA_imp pa_nil fun σ H Q ⟨ρ, l, s, rl, rp, h⟩ => h ρ H [] Ex.rfl' rp .nil
theorem sa_cons (ha : SE G p E X a ma) (hr : SA G p E X es mr) (hs : starEach (a :: es) X.env = (false, eval a X.env) :: starEach es X.env := by rfl) : SA G p E X (a :: es) (aCons ma mr) :=
  PA_imp (pa_cons ha hr hs) fun σ H Q ⟨ρ, l, s, rl, rp, h⟩ => ⟨ρ, l, s, rl, rp, PoA.bind h fun x s1 ρ1 H1 v x1 rp1 rv1 h1 => ⟨ρ1, l, s1, rl.mono x1, rp1, PoA.bind h1 fun xs s2 ρ2 H2 vs x2 rp2 rv2 h2 => h2 ρ2 H2 _ Ex.rfl' rp2 (.cons (rv1.mono x2) rv2)⟩⟩
theorem million {n : Nat} (h : n ≤ 1000000) : n ≤ sizeLine := by rw [sizeLine_eq]; omega
theorem se_tup {x1} (h : SA G p E X es mr) : SE G p E X (.Tuple es x1 pos) (eTup mr) :=
  PE_imp (pe_tup h) fun σ H Q ⟨ρ, l, s, rl, rp, h⟩ => ⟨ρ, l, s, rl, rp, PoA.bind h fun xs s1 ρ1 H1 vs x1 rp1 rv1 h1 => by
    split at h1
    · rename_i hl
      refine ⟨million (by rw [← rv1.len]; exact hl), fun q hq => h1 ρ1 _ _ (Ex.fresh rp1 hq) (rp1.fresh hq) (.tup (rp1.ref_none hq) upd_same (rv1.mono (Ex.fresh rp1 hq)))⟩
    · exact h1.elim⟩
theorem se_lst (h : SA G p E X es mr) : SE G p E X (.List es pos) (eLst p mr) :=
  PE_imp (pe_lst h) fun σ H Q ⟨ρ, l, s, rl, rp, h⟩ => ⟨ρ, l, s, rl, rp, PoA.bind h fun xs s1 ρ1 H1 vs x1 rp1 rv1 h1 => by
    split at h1
    · rename_i hl
      refine ⟨million (by rw [← rv1.len]; exact hl), fun q hq => ?_⟩
      have xx : Ex ρ1 H1 (ρ1 ++ [q]) (upd H1 q (.lst vs)) := Ex.al rp1 hq
      obtain ⟨_, r2, r3⟩ := rp1.al_ (o := .lst xs) hq (.lst (rv1.mono xx))
      exact h1 _ _ _ xx r2 r3
    · exact h1.elim⟩
/-! built-ins by name -/
theorem b_way {r : List V → Hp → VK → Prop} {f : Hh → List W → S → O2} {σ : L2.St} {H : Hp} {Q : VK} (h : tI G p E (eB f p mr) σ H Q) :
    tCB (fun vs H Q => ∃ ρ s xs, Rep G ρ p s H ∧ RVs G ρ H xs vs ∧ PoO G p ρ H (f p xs s) Q) (tA G p E mr) σ H Q := by
  obtain ⟨ρ, l, s, rl, rp, h⟩ := h
  exact ⟨ρ, l, s, rl, rp, PoA.bind h fun xs s1 ρ1 H1 vs x1 rp1 rv1 h1 => ⟨ρ1, s1, xs, rp1, rv1, po_of h1⟩⟩
theorem se_b {x : Str} {id : String} {f : Hh → List W → S → O2} {p' : Pos} (hc : CallI G X (.builtin id) f) (hm : X.mg x = none) (ha : SA G p E X (a :: es) mr) (hv : bootBuiltins x = some (.builtin id) := by decide +kernel) (hg : Gl X x := by rfl) (hn : x ≠ "__name__" := by decide) (hdb : (x == ("__debug__" : Str)) = false := by decide)
    (he : starEach (a :: es) X.env = (false, eval a X.env) :: starEach es X.env := by rfl) (hpl : (backTo pos (starEach es X.env)).any (·.1) = false := by rfl) : SE G p E X (.Call (.Name x p') (a :: es) [] pos) (eB f p mr) :=
  PE_imp (pe_callB (hc p) hg hm hv ha hn hdb he hpl) fun σ H Q h => b_way (r := fun _ _ _ => True) h
theorem se_bt {x : Str} {T : String} {f : Hh → List W → S → O2} {p' : Pos} (hc : CallI G X (.type T) f) (hm : X.mg x = none) (ha : SA G p E X (a :: es) mr) (hv : bootBuiltins x = some (.type T) := by decide +kernel) (hg : Gl X x := by rfl) (hn : x ≠ "__name__" := by decide) (hdb : (x == ("__debug__" : Str)) = false := by decide)
    (he : starEach (a :: es) X.env = (false, eval a X.env) :: starEach es X.env := by rfl) (hpl : (backTo pos (starEach es X.env)).any (·.1) = false := by rfl) : SE G p E X (.Call (.Name x p') (a :: es) [] pos) (eB f p mr) :=
  PE_imp (pe_callTy (hc p) hg hm hv ha hn hdb he hpl) fun σ H Q h => b_way (r := fun _ _ _ => True) h
/-! ### statements -/
variable {st : Stmt} {sts : List Stmt} {m m' : Lo → S → RS}
theorem PoS.nx {p : Hh} {ρ : List Addr} {H : Hp} {l : Lo} {s : S} {D : Ends} {σ : L2.St} (h : PoS G p ρ H (.nx l s) D E) (rp : Rep G ρ p s H) (rl : RL G ρ H l σ) : D.nx σ H := h ρ H σ Ex.rfl' rp rl
theorem sb_nil : SB G p E X [] sNx := PSs_imp pss_nil fun D σ H ⟨ρ, l, s, rl, rp, h⟩ => h ρ H σ Ex.rfl' rp rl
/-- the first part's result, the second part behind its plain end -/
theorem PoS.seq {ρ : List Addr} {H : Hp} {r : RS} {k : Lo → S → RS} {D : Ends} (h : PoS G p ρ H (match r with | .nx l1 s1 => k l1 s1 | r => r) D E) : PoS G p ρ H r { D with nx := tS G p E k D } E := by
  cases r with
  | nx l s => exact fun ρ' H' σ' x rp rl => ⟨ρ', l, s, rl, rp, PoS.base h x⟩
  | _ => exact h
theorem sb_cons (h1 : SS G p E X st m) (h2 : SB G p E X sts m') : SB G p E X (st :: sts) (sSeq m m') :=
  PSs_imp (pss_cons h1 h2) fun D σ H ⟨ρ, l, s, rl, rp, h⟩ => ⟨ρ, l, s, rl, rp, PoS.seq h⟩
theorem sb_one (h1 : SS G p E X st m) : SB G p E X [st] m := pss_one h1
theorem ss_pass : SS G p E X (.Pass pos) sNx := PS_imp ps_pass fun D σ H ⟨ρ, l, s, rl, rp, h⟩ => h ρ H σ Ex.rfl' rp rl
theorem ss_brk : SS G p E X (.Break pos) sBrk := PS_imp ps_break fun D σ H ⟨ρ, l, s, rl, rp, h⟩ => h ρ H σ Ex.rfl' rp rl
theorem ss_ct : SS G p E X (.Continue pos) sCt := PS_imp ps_continue fun D σ H ⟨ρ, l, s, rl, rp, h⟩ => h ρ H σ Ex.rfl' rp rl
theorem ss_doc {x j pos'} : SS G p E X (.Expr (.Constant (.str x) j pos) pos') sNx := PS_imp ps_doc fun D σ H ⟨ρ, l, s, rl, rp, h⟩ => h ρ H σ Ex.rfl' rp rl
/-- an expression's value, then the rest -/
theorem PoS.val {ρ : List Addr} {H : Hp} {σ : L2.St} {l : Lo} {r : R W} {k : W → S → RS} {D : Ends} {Q : VK} (rl : RL G ρ H l σ) (h : PoS G p ρ H (r.toS l k) D E)
    (hk : ∀ w s' ρ' H' v, Ex ρ H ρ' H' → Rep G ρ' p s' H' → RV G ρ' H' w v → PoS G p ρ' H' (k w s') D E → Q v H') : PoV G p ρ H r Q (fun c d H' => E c d σ H') := by
  cases r with
  | ok w s => exact fun ρ' H' v x y z => hk w s ρ' H' v x y z (PoS.base h x)
  | exc c w s => exact fun ρ' H' d x y z => h ρ' H' d σ x y z (rl.mono x)
  | bad => exact h
theorem ss_ex (ha : SE G p E X a ma) (hs : swapsWith a none pos.line X.env = pure false := by rfl) : SS G p E X (.Expr a pos) (sEx ma) :=
  PS_imp (ps_expr ha hs) fun D σ H ⟨ρ, l, s, rl, rp, h⟩ => ⟨ρ, l, s, rl, rp, PoS.val rl h fun w s1 ρ1 H1 v x1 rp1 rv1 h1 => h1 ρ1 H1 σ Ex.rfl' rp1 (rl.mono x1)⟩
theorem ss_ret (ha : SE G p E X a ma) : SS G p E X (.Return (some a) pos) (sRet ma) :=
  PS_imp (ps_ret ha) fun D σ H ⟨ρ, l, s, rl, rp, h⟩ => ⟨ρ, l, s, rl, rp, PoS.val rl h fun w s1 ρ1 H1 v x1 rp1 rv1 h1 => h1 ρ1 H1 v Ex.rfl' rp1 rv1⟩
theorem ss_retN : SS G p E X (.Return none pos) sRetN := PS_imp ps_retN fun D σ H ⟨ρ, l, s, rl, rp, h⟩ => h ρ H _ Ex.rfl' rp .non
theorem ss_if {sa sb : List Stmt} (hc : ST G p E X c ta) (ha : SB G p E X sa m) (hb : SB G p E X sb m') : SS G p E X (.If c sa sb pos) (sIf ta m m') :=
  PS_imp (ps_if hc ha hb) fun D σ H ⟨ρ, l, s, rl, rp, h⟩ => ⟨ρ, l, s, rl, rp, by
    unfold sIf at h
    cases e : ta l s with
    | bad => rw [e] at h; exact h.elim
    | exc c w s1 => rw [e] at h; exact fun ρ' H' d x y z => h ρ' H' d σ x y z (rl.mono x)
    | ok bb s1 =>
      rw [e] at h
      refine fun ρ1 H1 v x1 rp1 rv1 => ?_
      cases rv1
      cases bb with
      | true => exact ⟨ρ1, l, s1, rl.mono x1, rp1, PoS.base h x1⟩
      | false => exact ⟨ρ1, l, s1, rl.mono x1, rp1, PoS.base h x1⟩⟩
/-! targets -/
variable {tg : Expr} {tgs : List Expr} {g : W → Lo → S → OG} {gs : List W → Lo → S → OG}
theorem PoG.base {ρ ρ1 : List Addr} {H H1 : Hp} {r : Option (Lo × S)} {Q : L2.St → Hp → Prop} (h : PoG G p ρ H r Q) (x : Ex ρ H ρ1 H1) : PoG G p ρ1 H1 r Q := by
  cases r with
  | none => exact h
  | some q => exact fun ρ' H' σ' y => h ρ' H' σ' (x.trans y)
theorem sg_nm (i : Nat) {x : Str} (hN : X.N.Nodup) (hi : X.N[i]? = some x := by rfl) (hx : Loc X.env.scope x := by first | exact .inl rfl | exact .inr rfl) (hf : X.fn x = true ∨ X.env.scope.names.lookup x = some .local := by first | exact .inl rfl | exact .inr rfl | assumption) (hh : G.hold ≠ some i := by intro z; cases z) : SG G p X (.Name x pos) (gNm i) :=
  PG_imp (pg_name hN hi hx hf) fun v σ H Q ⟨ρ, l, s, w, rl, rp, rv, h⟩ => h ρ H _ Ex.rfl' rp (rl.set i rv hh)
theorem sgs_nil : SGs G p X [] gsNil := PGs_imp pgs_nil fun v σ H Q ⟨ρ, l, s, ws, rl, rp, rv, h⟩ => by
  cases rv with
  | nil => exact ⟨rfl, h ρ H σ Ex.rfl' rp rl⟩
  | cons _ _ => exact h.elim
theorem sgs_cons (h1 : SG G p X tg g) (h2 : SGs G p X tgs gs) (hs : (assignEach (tg :: tgs) X.env).map (·.2) = assign tg X.env :: (assignEach tgs X.env).map (·.2) := by rfl) : SGs G p X (tg :: tgs) (gsCons g gs) :=
  PGs_imp (pgs_cons h1 h2 hs) fun v σ H Q ⟨ρ, l, s, ws, rl, rp, rv, h⟩ => by
    cases rv with
    | nil => exact h.elim
    | @cons w v1 ws' vs' r1 r2 =>
      refine ⟨_, _, rfl, ρ, l, s, w, rl, rp, r1, ?_⟩
      unfold gsCons at h
      dsimp only at h
      cases e : g w l s with
      | none => rw [e] at h; exact h
      | some q =>
        obtain ⟨l1, s1⟩ := q
        rw [e] at h
        exact fun ρ' H' σ' x y z => ⟨ρ', l1, s1, ws', z, y, r2.mono x, PoG.base h x⟩
theorem sg_tup {n : Nat} {kk : Nat} (hc : X.calm = true) (h : SGs G p X tgs gs) (hn : (assignEach tgs X.env).length = n := by rfl) (hst : (assignEach tgs X.env).findIdx? (·.1) = none := by rfl) : SG G p X (.Tuple tgs kk pos) (gTupT n gs) :=
  PG_imp (pg_tup hc h hn hst) fun v σ H Q ⟨ρ, l, s, w, rl, rp, rv, h⟩ => by
    cases rv with
    | @tup a ws vs na ha r =>
      unfold gTupT at h
      dsimp only at h
      split at h
      · rename_i hl
        exact ⟨_, vs, rfl, SqT.of ha, by rw [← r.len]; exact hl, ρ, l, s, ws, rl, rp, r, h⟩
      · exact h.elim
    | _ => exact h.elim
theorem PoG.ofS {ρ : List Addr} {H : Hp} {r : OG} {D : Ends} (h : PoS G p ρ H (nxO r) D E) : PoG G p ρ H r D.nx := by
  cases r with
  | none => exact h
  | some q => obtain ⟨l, s⟩ := q; exact h
theorem ss_asg (ha : SE G p E X a ma) (hg : SG G p X tg g) (hs : swapsWithSole [tg] a pos.line X.env = pure false := by rfl) (hw : swappedStores [tg] a X.env = pure none := by rfl)
    (h1 : (assignEach [tg] X.env).map (·.2) = [assign tg X.env] := by rfl) : SS G p E X (.Assign [tg] a pos) (sAsg g ma) :=
  PS_imp (ps_asg ha hg hs hw h1) fun D σ H ⟨ρ, l, s, rl, rp, h⟩ => ⟨ρ, l, s, rl, rp, PoS.val rl h fun w s1 ρ1 H1 v x1 rp1 rv1 h1 => ⟨ρ1, l, s1, w, rl.mono x1, rp1, rv1, PoG.ofS h1⟩⟩
theorem ss_set (i : Nat) {x : Str} {pos' : Pos} (ha : SE G p E X a ma) (hN : X.N.Nodup) (hi : X.N[i]? = some x := by rfl) (hx : Loc X.env.scope x := by first | exact .inl rfl | exact .inr rfl) (hs : swapsWith a (some (.Name x pos')) pos.line X.env = pure false := by rfl)
    (hf : X.fn x = true ∨ X.env.scope.names.lookup x = some .local := by first | exact .inl rfl | exact .inr rfl | assumption) (hh : G.hold ≠ some i := by intro z; cases z) : SS G p E X (.Assign [.Name x pos'] a pos) (sAsg (gNm i) ma) :=
  PS_imp (ps_set hN hi hx ha hs hf) fun D σ H ⟨ρ, l, s, rl, rp, h⟩ => ⟨ρ, l, s, rl, rp, PoS.val rl h fun w s1 ρ1 H1 v x1 rp1 rv1 h1 => h1 ρ1 H1 _ Ex.rfl' rp1 ((rl.mono x1).set i rv1 hh)⟩
def IpI (G : GE) (X : Cx) (op : Operator) (f : Hh → W → W → S → O2) : Prop :=
  ∀ p, PIp X op (fun v u H Q => ∃ ρ s x y, Rep G ρ p s H ∧ RV G ρ H x v ∧ RV G ρ H y u ∧ PoO G p ρ H (f p x y s) Q)
theorem ss_aug (i : Nat) {op : Operator} {f : Hh → W → W → S → O2} {x : Str} {pos' : Pos} (ho : IpI G X op f) (ha : SE G p E X a ma) (hN : X.N.Nodup) (hi : X.N[i]? = some x := by rfl) (hx : Loc X.env.scope x := by first | exact .inl rfl | exact .inr rfl)
    (hf : X.fn x = true ∨ X.env.scope.names.lookup x = some .local := by first | exact .inl rfl | exact .inr rfl | assumption) (hh : G.hold ≠ some i := by intro z; cases z) : SS G p E X (.AugAssign (.Name x pos') op a pos) (sAug f p i ma) :=
  PS_imp (ps_aug hN hi hx ha (ho p) hf) fun D σ H ⟨ρ, l, s, rl, rp, h⟩ => by
    unfold sAug at h
    split at h
    · rename_i w e
      obtain ⟨v, e1, r⟩ := rl.has i w e
      refine ⟨v, e1, ρ, l, s, rl, rp, PoS.val rl h fun y s1 ρ1 H1 u x1 rp1 rv1 h1 => ⟨ρ1, s1, w, y, rp1, r.mono x1, rv1, ?_⟩⟩
      cases q : f p w y s1 with
      | none => rw [q] at h1; exact h1
      | some z =>
        obtain ⟨z, s2⟩ := z
        rw [q] at h1
        exact fun ρ2 H2 v2 x2 rp2 rv2 => h1 ρ2 H2 _ x2 rp2 (((rl.mono x1).mono x2).set i rv2 hh)
    · exact h.elim
theorem ss_par2 (i j : Nat) {x y : Str} {px py pt : Pos} {kt k2 pt2} (hc : X.calm = true) (hN : X.N.Nodup) (ha : SA G p E X [a, b] mr) (hi : X.N[i]? = some x := by rfl) (hj : X.N[j]? = some y := by rfl) (hij : i ≠ j := by decide)
    (hx : X.env.scope.names.lookup x = some .local := by rfl) (hy : X.env.scope.names.lookup y = some .local := by rfl)
    (hw : swappedStores [.Tuple [.Name x px, .Name y py] kt pt] (.Tuple [a, b] k2 pt2) X.env = pure (some [x, y]) := by rfl)
    (hs : swapsWithSole [.Tuple [.Name x px, .Name y py] kt pt] (.Tuple [a, b] k2 pt2) pos.line X.env = pure false := by rfl) (hh : G.hold ≠ some i := by intro z; cases z) (hh2 : G.hold ≠ some j := by intro z; cases z) :
    SS G p E X (.Assign [.Tuple [.Name x px, .Name y py] kt pt] (.Tuple [a, b] k2 pt2) pos) (sPar2 i j mr) :=
  PS_imp (ps_par hc hN hi hj hij hx hy ha hw hs) fun D σ H ⟨ρ, l, s, rl, rp, h⟩ => ⟨ρ, l, s, rl, rp, by
    unfold sPar2 at h
    cases e : mr l s with
    | bad => rw [e] at h; exact h.elim
    | exc c w s1 => rw [e] at h; exact fun ρ' H' d x y z => h ρ' H' d σ x y z (rl.mono x)
    | ok ws s1 =>
      rw [e] at h
      refine fun ρ1 H1 vs x1 rp1 rv1 => ?_
      match ws, vs, rv1, h with
      | [], _, _, h => exact h.elim
      | [_], _, _, h => exact h.elim
      | [w1, w2], _, .cons r1 (.cons r2 .nil), h => exact ⟨_, _, rfl, h ρ1 H1 _ x1 rp1 (((rl.mono x1).set i r1 hh).set j r2 hh2)⟩
      | _ :: _ :: _ :: _, _, _, h => exact h.elim⟩
def SetI (G : GE) (X : Cx) (f : Hh → W → W → W → S → Option S) : Prop :=
  ∀ p, PSet X (fun o i v H Q => ∃ ρ s wo wi w, Rep G ρ p s H ∧ RV G ρ H wo o ∧ RV G ρ H wi i ∧ RV G ρ H w v ∧ (match f p wo wi w s with | some s' => ∀ H', Ex ρ H ρ H' → Rep G ρ p s' H' → Q H' | none => False))
theorem sg_sub {f : Hh → W → W → W → S → Option S} (hs : SetI G X f) (ho : SE G p (fun _ _ _ _ => False) X o mo) (hi : SE G p (fun _ _ _ _ => False) X i mi)
    (ha : ∀ v, assign (.Subscript o i pos) X.env v = (do
      let ov ← holding [v] (eval o X.env)
      let iv ← holding [v, ov] (eval i X.env)
      standAt pos
      holding [v, ov, iv] (setItem ov iv v)
      release [v, ov, iv] []) := by intro _; rfl) : SG G p X (.Subscript o i pos) (gSubT f p mo mi) :=
  PG_imp (pg_sub ho hi (hs p) ha) fun v σ H Q ⟨ρ, l, s, w, rl, rp, rv, h⟩ => by
    unfold gSubT at h
    refine ⟨ρ, l, s, rl, rp, ?_⟩
    cases e : mo l s with
    | bad => rw [e] at h; exact h.elim
    | exc _ _ _ => rw [e] at h; exact h.elim
    | ok wo s1 =>
      rw [e] at h
      dsimp only at h
      refine fun ρ1 H1 ov x1 rp1 rv1 => ⟨ρ1, l, s1, rl.mono x1, rp1, ?_⟩
      cases e2 : mi l s1 with
      | bad => rw [e2] at h; exact h.elim
      | exc _ _ _ => rw [e2] at h; exact h.elim
      | ok wi s2 =>
        rw [e2] at h
        dsimp only at h
        refine fun ρ2 H2 iv x2 rp2 rv2 => ⟨ρ2, s2, wo, wi, w, rp2, rv1.mono x2, rv2, (rv.mono x1).mono x2, ?_⟩
        cases e3 : f p wo wi w s2 with
        | none => rw [e3] at h; exact h
        | some s3 =>
          rw [e3] at h
          exact fun H3 x3 rp3 => h ρ2 H3 σ ((x1.trans x2).trans x3) rp3 (((rl.mono x1).mono x2).mono x3)
end
end CC
set_option Elab.async false
set_option linter.all false
set_option maxRecDepth 100000
/-! CCLoop: what is walked; for, while; comprehensions -/
namespace CC
open PySem PySem.Spec PyProof.Rows L2

inductive ItD where
  | lst (n : Nat) | tup (ws : List W) | rng (lo c : Int) (n : Nat) | enl (n : Nat) | ent (ws : List W) | zip (n m : Nat) | str (z : Str)
/-- none: no such thing; some none: the end -/
def cellItems (p : Hh) (s : S) (n : Nat) : Option (List W) := match rd p s n with
  | some (.lst ws) => some ws
  | some (.frz ns) => some (ns.map W.int)
  | _ => none
def ItD.next (p : Hh) (s : S) : ItD → Nat → Option (Option W)
  | .lst n, i => (cellItems p s n).map fun ws => ws[i]?
  | .tup ws, i => some ws[i]?
  | .rng lo c n, i => some (if i < n then some (.int (lo + (i : Nat) * c)) else none)
  | .enl n, i => (cellItems p s n).map fun ws => ws[i]?.map fun w => .tup [.int (i : Nat), w]
  | .ent ws, i => some (ws[i]?.map fun w => .tup [.int (i : Nat), w])
  | .zip n m, i => match cellItems p s n, cellItems p s m with
    | some xs, some ys => some (match xs[i]?, ys[i]? with | some x, some y => some (.tup [x, y]) | _, _ => none)
    | _, _ => none
  | .str z, i => some (z.cps[i]?.map fun c => .str ⟨#[c]⟩)
def cellLen (p : Hh) (s : S) (n : Nat) : Nat := match cellItems p s n with
  | some ws => ws.length
  | none => 0
def ItD.cnt (p : Hh) (s : S) : ItD → Nat
  | .lst n => cellLen p s n
  | .tup ws => ws.length
  | .rng _ _ n => n
  | .enl n => cellLen p s n
  | .ent ws => ws.length
  | .zip n m => cellLen p s n
  | .str z => z.cps.size

/-- the layer's iterator J walks what d says, from (ρ, H) on -/
structure RI (G : GE) (p : Hh) (ρ : List Addr) (H : Hp) (d : ItD) (J : It) : Prop where
  yes : ∀ i w s ρ1 H1, Ex ρ H ρ1 H1 → Rep G ρ1 p s H1 → d.next p s i = some (some w) → J.go i H1 ∧ ∀ x H2, J.yld i H1 x H2 → Ex ρ1 H1 ρ1 H2 ∧ Rep G ρ1 p s H2 ∧ RV G ρ1 H2 w x
  no : ∀ i s ρ1 H1, Ex ρ H ρ1 H1 → Rep G ρ1 p s H1 → d.next p s i = some none → J.stop i H1
def PoI (G : GE) (p : Hh) (ρ : List Addr) (H : Hp) (r : R ItD) (Q : It → Hp → Prop) (E : XK) : Prop := PoA G p ρ H (fun ρ' H' d J => RI G p ρ' H' d J) r Q E
def tIt (G : GE) (p : Hh) (E : WX) (m : Lo → S → R ItD) : TI := fun σ H Q => ∃ ρ l s, RL G ρ H l σ ∧ Rep G ρ p s H ∧ PoI G p ρ H (m l s) Q (fun c d H' => E c d σ H')
def SI (G : GE) (p : Hh) (E : WX) (X : Cx) (tg iter : Expr) (m : Lo → S → R ItD) : Prop := PI X tg iter (tIt G p E m)
theorem PI_imp {X : Cx} {tg e : Expr} {t t' : TI} (h : PI X tg e t) (i : ∀ σ H Q, t' σ H Q → t σ H Q) : PI X tg e t' := ⟨fun pins s σ H Q I w => h.run pins s σ H Q I (i σ H Q w)⟩

/-! ### the forms -/
/-- a list or a tuple -/
def iSeq (ma : Lo → S → R W) (p : Hh) : Lo → S → R ItD := fun l s => (ma l s).bind fun w s1 => match w with
  | .ref n => (match cellItems p s1 n with | some _ => .ok (.lst n) s1 | none => .bad)
  | .tup ws => .ok (.tup ws) s1
  | _ => .bad
section
variable {G : GE} {p : Hh} {E : WX} {X : Cx} {ρ : List Addr} {H : Hp} {s : S}
/-- a cell of items, as the layer reads it -/
theorem cell_seq {K : PySem.W.Frag} {n : Nat} {ws : List W} {a : Addr} (rp : Rep G ρ p s H) (h : cellItems p s n = some ws) (e : ρ[n]? = some a) : ∃ vs, SqL K H a vs ∧ RVs G ρ H ws vs := by
  unfold cellItems at h
  cases q : rd p s n with
  | none => rw [q] at h; cases h
  | some o =>
    obtain ⟨u, hu, ro⟩ := rp.at q e
    rw [q] at h
    cases ro with
    | lst r => cases h; exact ⟨_, .inl (.inl hu), r⟩
    | @frz ns o =>
      cases h
      refine ⟨_, .inl (.inr ⟨o, hu⟩), ?_⟩
      clear hu q rp e
      induction ns with
      | nil => exact .nil
      | cons i r ih => exact .cons (.int i) ih
    | dK _ _ => cases h
    | dT _ _ => cases h
    | ins _ _ => cases h
theorem ri_lst {K : PySem.W.Frag} {n : Nat} {a : Addr} (e : ρ[n]? = some a) : RI G p ρ H (.lst n) (Itl K a) where
  yes := fun i w s ρ1 H1 x rp h => by
    simp only [ItD.next] at h
    cases q : cellItems p s n with
    | none => rw [q] at h; cases h
    | some ws =>
      rw [q] at h
      have h : ws[i]? = some w := Option.some.inj h
      obtain ⟨vs, hs, r⟩ := cell_seq (K := K) rp q (x.get e)
      obtain ⟨v, hv, rv⟩ := r.get h
      refine ⟨⟨vs, v, hs, hv⟩, fun y H2 hy => ?_⟩
      obtain ⟨rfl, hy⟩ := hy
      have e2 := hy vs hs
      rw [hv] at e2; cases e2
      exact ⟨Ex.rfl', rp, rv⟩
  no := fun i s ρ1 H1 x rp h => by
    simp only [ItD.next] at h
    cases q : cellItems p s n with
    | none => rw [q] at h; cases h
    | some ws =>
      rw [q] at h
      have h : ws[i]? = none := Option.some.inj h
      obtain ⟨vs, hs, r⟩ := cell_seq (K := K) rp q (x.get e)
      exact ⟨vs, hs, by rw [← r.len]; exact List.getElem?_eq_none_iff.mp h⟩
theorem ri_tup {K : PySem.W.Frag} {ws : List W} {vs : List V} {a : Addr} (na : a ∉ ρ) (h : H a = some (.tup vs)) (r : RVs G ρ H ws vs) : RI G p ρ H (.tup ws) (Itt K a) where
  yes := fun i w s ρ1 H1 x rp q => by
    have q : ws[i]? = some w := Option.some.inj q
    have h1 := x.keep _ _ na h
    obtain ⟨v, hv, rv⟩ := (r.mono x).get q
    refine ⟨⟨vs, v, SqT.of h1, hv⟩, fun y H2 hy => ?_⟩
    obtain ⟨rfl, hy⟩ := hy
    have e2 := hy vs (SqT.of h1)
    rw [hv] at e2; cases e2
    exact ⟨Ex.rfl', rp, rv⟩
  no := fun i s ρ1 H1 x rp q => by
    have q : ws[i]? = none := Option.some.inj q
    exact ⟨vs, SqT.of (x.keep _ _ na h), by rw [← r.len]; exact List.getElem?_eq_none_iff.mp q⟩
theorem ri_rng {lo : Int} {n : Nat} : RI G p ρ H (.rng lo 1 n) (Itr lo n) where
  yes := fun i w s ρ1 H1 x rp q => by
    simp only [ItD.next] at q
    by_cases hi : i < n
    · rw [if_pos hi] at q
      cases q
      refine ⟨hi, fun y H2 hy => ?_⟩
      obtain ⟨rfl, rfl⟩ := hy
      exact ⟨Ex.rfl', rp, by rw [Int.mul_one]; exact .int _⟩
    · rw [if_neg hi] at q; cases q
  no := fun i s ρ1 H1 x rp q => by
    simp only [ItD.next] at q
    by_cases hi : i < n
    · rw [if_pos hi] at q; cases q
    · exact Nat.le_of_not_lt hi
theorem ri_rngC {lo c : Int} {n : Nat} : RI G p ρ H (.rng lo c n) (Itc lo c n) where
  yes := fun i w s ρ1 H1 x rp q => by
    simp only [ItD.next] at q
    by_cases hi : i < n
    · rw [if_pos hi] at q
      cases q
      refine ⟨hi, fun y H2 hy => ?_⟩
      obtain ⟨rfl, rfl⟩ := hy
      exact ⟨Ex.rfl', rp, .int _⟩
    · rw [if_neg hi] at q; cases q
  no := fun i s ρ1 H1 x rp q => by
    simp only [ItD.next] at q
    by_cases hi : i < n
    · rw [if_pos hi] at q; cases q
    · exact Nat.le_of_not_lt hi
/-- a new pair -/
theorem pair_new {T : Addr} {w1 w2 : W} {x1 x2 : V} (rp : Rep G ρ p s H) (nT : H T = none) (r1 : RV G ρ H w1 x1) (r2 : RV G ρ H w2 x2) : Ex ρ H ρ (upd H T (.tup [x1, x2])) ∧ Rep G ρ p s (upd H T (.tup [x1, x2])) ∧ RV G ρ (upd H T (.tup [x1, x2])) (.tup [w1, w2]) (.ref T) :=
  have x := Ex.fresh (u := .tup [x1, x2]) rp nT
  ⟨x, rp.fresh nT, .tup (rp.ref_none nT) upd_same (.cons (r1.mono x) (.cons (r2.mono x) .nil))⟩
theorem ri_enl {K : PySem.W.Frag} {n : Nat} {a : Addr} (e : ρ[n]? = some a) : RI G p ρ H (.enl n) (Ite K a) where
  yes := fun i w s ρ1 H1 x rp h => by
    simp only [ItD.next] at h
    cases q : cellItems p s n with
    | none => rw [q] at h; cases h
    | some ws =>
      rw [q] at h
      have h : ws[i]?.map (fun w => W.tup [.int (i : Nat), w]) = some w := Option.some.inj h
      cases q2 : ws[i]? with
      | none => rw [q2] at h; cases h
      | some w1 =>
        rw [q2] at h
        cases h
        obtain ⟨vs, hs, r⟩ := cell_seq (K := K) rp q (x.get e)
        obtain ⟨v, hv, rv⟩ := r.get q2
        refine ⟨⟨vs, v, hs, hv⟩, fun y H2 hy => ?_⟩
        obtain ⟨T, x1, rfl, nT, rfl, hy⟩ := hy
        have e2 := hy vs hs
        rw [hv] at e2; cases e2
        exact pair_new rp nT (.int _) rv
  no := fun i s ρ1 H1 x rp h => by
    simp only [ItD.next] at h
    cases q : cellItems p s n with
    | none => rw [q] at h; cases h
    | some ws =>
      rw [q] at h
      have h : ws[i]?.map (fun w => W.tup [.int (i : Nat), w]) = none := Option.some.inj h
      obtain ⟨vs, hs, r⟩ := cell_seq (K := K) rp q (x.get e)
      refine ⟨vs, hs, by rw [← r.len]; exact List.getElem?_eq_none_iff.mp (by simpa using h)⟩
variable {tg a b c : Expr} {ma mb mc : Lo → S → R W} {mr : Lo → S → R (List W)} {q' pos tpos : Pos}
theorem PI_or {e : Expr} {t t' : TI} (h : PI X tg e t) (h' : PI X tg e t') : PI X tg e (fun σ H R => t σ H R ∨ t' σ H R) := ⟨fun pins s σ H Q I w => w.elim (h.run pins s σ H Q I) (h'.run pins s σ H Q I)⟩
theorem si_seq (ha : SE G p E X a ma) : SI G p E X tg a (iSeq ma p) :=
  PI_imp (PI_or (pi_list ha) (pi_tup ha)) fun σ H R ⟨ρ, l, s, rl, rp, h⟩ => by
    unfold iSeq at h
    cases e : ma l s with
    | bad => rw [e] at h; exact h.elim
    | exc c w s1 =>
      refine .inl ⟨ρ, l, s, rl, rp, ?_⟩
      rw [e] at h ⊢
      exact h
    | ok w s1 =>
      rw [e] at h
      simp only [CC.R.bind] at h
      cases w with
      | ref n =>
        dsimp only at h
        cases q : cellItems p s1 n with
        | none => rw [q] at h; exact h.elim
        | some ws =>
          rw [q] at h
          refine .inl ⟨ρ, l, s, rl, rp, ?_⟩
          rw [e]
          refine fun ρ1 H1 v x1 rp1 rv => ?_
          cases rv with
          | ref e1 =>
            obtain ⟨vs, hs, _⟩ := cell_seq (K := X.K) rp1 q e1
            exact ⟨_, rfl, ⟨vs, hs⟩, h ρ1 H1 _ x1 rp1 (ri_lst e1)⟩
      | tup ws =>
        refine .inr ⟨ρ, l, s, rl, rp, ?_⟩
        rw [e]
        refine fun ρ1 H1 v x1 rp1 rv => ?_
        cases rv with
        | tup na h1 r => exact ⟨_, rfl, ⟨_, SqT.of h1⟩, h ρ1 H1 _ x1 rp1 (ri_tup na h1 r)⟩
      | _ => exact h.elim
def b62 (i : Int) : Bool := decide (-(2 ^ 62) ≤ i) && decide (i < 2 ^ 62)
theorem b62_ok {i : Int} (h : b62 i = true) : -(2 ^ 62) ≤ i ∧ i < 2 ^ 62 := by
  unfold b62 at h
  obtain ⟨a, b⟩ := Bool.and_eq_true_iff.mp h
  exact ⟨of_decide_eq_true a, of_decide_eq_true b⟩
def iRange1 (ma : Lo → S → R W) : Lo → S → R ItD := fun l s => (ma l s).bind fun w s1 => match w with
  | .int j => if b62 j then .ok (.rng 0 1 j.toNat) s1 else .bad
  | _ => .bad
def iRange2 (ma mb : Lo → S → R W) : Lo → S → R ItD := fun l s => (ma l s).bind fun w s1 => (mb l s1).bind fun w2 s2 => match w, w2 with
  | .int i, .int j => if b62 i && b62 j then .ok (.rng i 1 (j - i).toNat) s2 else .bad
  | _, _ => .bad
def rgOk (i j c : Int) : Bool := decide (c ≠ 0) && decide (c.natAbs < 1073741824) && Builtin.Range.small i j c && decide (Builtin.Range.rangeSize i j c = ((Builtin.Range.rangeSize i j c).toNat : Int))
def iRange3 (ma mb mc : Lo → S → R W) : Lo → S → R ItD := fun l s => (ma l s).bind fun w s1 => (mb l s1).bind fun w2 s2 => (mc l s2).bind fun w3 s3 => match w, w2, w3 with
  | .int i, .int j, .int c => if c = -1 then (if b62 i && b62 j then .ok (.rng i (-1) (i - j).toNat) s3 else .bad)
    else if rgOk i j c then .ok (.rng i c (Builtin.Range.rangeSize i j c).toNat) s3 else .bad
  | _, _, _ => .bad
/-- one argument's list from its expression -/
theorem pa1 (ha : SE G p E X a ma) (hs : starEach (a :: []) X.env = (false, eval a X.env) :: starEach [] X.env := by rfl) : PA X [a] (tCons (tI G p E ma) tNil) := pa_cons ha pa_nil hs
theorem si_range1 (hm : X.mg "range" = none) (ha : SE G p E X a ma) (hg : Gl X "range" := by rfl) (hs : starEach [a] X.env = [(false, eval a X.env)] := by rfl) (hs2 : starEach (a :: []) X.env = (false, eval a X.env) :: starEach [] X.env := by rfl) : SI G p E X tg (.Call (.Name "range" q') [a] [] pos) (iRange1 ma) :=
  PI_imp (pi_range1 hg hm (pa1 ha hs2) hs) fun σ H R' ⟨ρ, l, s, rl, rp, h⟩ => by
    unfold iRange1 at h
    refine ⟨ρ, l, s, rl, rp, PoA.bind h fun w s1 ρ1 H1 v x1 rp1 rv1 h1 => ?_⟩
    cases rv1 with
    | int j =>
      dsimp only at h1
      split at h1
      · rename_i hb
        obtain ⟨b1, b2⟩ := b62_ok hb
        exact ⟨j, rfl, b1, b2, h1 ρ1 H1 _ Ex.rfl' rp1 ri_rng⟩
      · exact h1.elim
    | _ => exact h1.elim
theorem si_range2 (hm : X.mg "range" = none) (ha : SE G p E X a ma) (hb : SE G p E X b mb) (hg : Gl X "range" := by rfl) (hs : starEach [a, b] X.env = [(false, eval a X.env), (false, eval b X.env)] := by rfl) (hs2 : starEach [b] X.env = [(false, eval b X.env)] := by rfl)
    (hs3 : starEach (a :: [b]) X.env = (false, eval a X.env) :: starEach [b] X.env := by rfl) (hs4 : starEach (b :: []) X.env = (false, eval b X.env) :: starEach [] X.env := by rfl) : SI G p E X tg (.Call (.Name "range" q') [a, b] [] pos) (iRange2 ma mb) :=
  PI_imp (pi_range2 hg hm (pa_cons ha (pa1 hb hs4) hs3) hs hs2) fun σ H R' ⟨ρ, l, s, rl, rp, h⟩ => by
    unfold iRange2 at h
    refine ⟨ρ, l, s, rl, rp, PoA.bind h fun w s1 ρ1 H1 v x1 rp1 rv1 h1 => ⟨ρ1, l, s1, rl.mono x1, rp1, PoA.bind h1 fun w2 s2 ρ2 H2 v2 x2 rp2 rv2 h2 => ?_⟩⟩
    cases rv1 with
    | int i =>
      cases rv2 with
      | int j =>
        dsimp only at h2
        split at h2
        · rename_i hb
          obtain ⟨c1, c2⟩ := Bool.and_eq_true_iff.mp hb
          obtain ⟨b1, b2⟩ := b62_ok c1
          obtain ⟨b3, b4⟩ := b62_ok c2
          exact ⟨i, j, rfl, ⟨b1, b2, b3, b4⟩, h2 ρ2 H2 _ Ex.rfl' rp2 ri_rng⟩
        · exact h2.elim
      | _ => exact h2.elim
    | _ => exact h2.elim
theorem si_range3 (hm : X.mg "range" = none) (ha : SE G p E X a ma) (hb : SE G p E X b mb) (hc : SE G p E X c mc) (hg : Gl X "range" := by rfl) (hs1 : starEach (a :: [b, c]) X.env = (false, eval a X.env) :: starEach [b, c] X.env := by rfl) (hs2 : starEach (b :: [c]) X.env = (false, eval b X.env) :: starEach [c] X.env := by rfl) (hs3 : starEach (c :: []) X.env = (false, eval c X.env) :: starEach [] X.env := by rfl)
    (K : ∀ {ta : TA}, PA X [a, b, c] ta → PI X tg (.Call (.Name "range" q') [a, b, c] [] pos) (iRng3 ta)) : SI G p E X tg (.Call (.Name "range" q') [a, b, c] [] pos) (iRange3 ma mb mc) :=
  PI_imp (K (pa_cons ha (pa_cons hb (pa1 hc hs3) hs2) hs1)) fun σ H R' ⟨ρ, l, s, rl, rp, h⟩ => by
    unfold iRange3 at h
    refine ⟨ρ, l, s, rl, rp, PoA.bind h fun w s1 ρ1 H1 v x1 rp1 rv1 h1 => ⟨ρ1, l, s1, rl.mono x1, rp1, PoA.bind h1 fun w2 s2 ρ2 H2 v2 x2 rp2 rv2 h2 => ⟨ρ2, l, s2, (rl.mono x1).mono x2, rp2, PoA.bind h2 fun w3 s3 ρ3 H3 v3 x3 rp3 rv3 h3 => ?_⟩⟩⟩
    cases rv1 with
    | int i =>
      cases rv2 with
      | int j =>
        cases rv3 with
        | int c =>
          dsimp only at h3
          split at h3
          · rename_i hc
            subst hc
            split at h3
            · rename_i hb
              obtain ⟨c1, c2⟩ := Bool.and_eq_true_iff.mp hb
              obtain ⟨b1, b2⟩ := b62_ok c1
              obtain ⟨b3, b4⟩ := b62_ok c2
              exact ⟨i, j, -1, _, rfl, RgC.neg b1 b2 b3 b4, h3 ρ3 H3 _ Ex.rfl' rp3 ri_rngC⟩
            · exact h3.elim
          · split at h3
            · rename_i hb
              unfold rgOk at hb
              obtain ⟨hb, c4⟩ := Bool.and_eq_true_iff.mp hb
              obtain ⟨hb, c3⟩ := Bool.and_eq_true_iff.mp hb
              obtain ⟨c1, c2⟩ := Bool.and_eq_true_iff.mp hb
              exact ⟨i, j, c, _, rfl, ⟨of_decide_eq_true c1, of_decide_eq_true c2, c3, of_decide_eq_true c4⟩, h3 ρ3 H3 _ Ex.rfl' rp3 ri_rngC⟩
            · exact h3.elim
        | _ => exact h3.elim
      | _ => exact h3.elim
    | _ => exact h3.elim
/-- enumerate(list) -/
def iEnl (ma : Lo → S → R W) (p : Hh) : Lo → S → R ItD := fun l s => (ma l s).bind fun w s1 => match w with
  | .ref n => (match cellItems p s1 n with | some _ => .ok (.enl n) s1 | none => .bad)
  | .tup ws => .ok (.ent ws) s1
  | _ => .bad
/-! ### for -/
variable {g : W → Lo → S → OG} {m mb' : Lo → S → RS} {mi : Lo → S → R ItD} {ta : Lo → S → R Bool}
def forI (p : Hh) (g : W → Lo → S → OG) (b : Lo → S → RS) (d : ItD) : Nat → Nat → Lo → S → RS
  | 0, _, _, _ => .bad
  | k + 1, i, l, s => match d.next p s i with
    | none => .bad
    | some none => .nx l s
    | some (some w) => match g w l s with
      | none => .bad
      | some (l1, s1) => match b l1 s1 with
        | .nx l2 s2 => forI p g b d k (i + 1) l2 s2
        | .ct l2 s2 => forI p g b d k (i + 1) l2 s2
        | .brk l2 s2 => .nx l2 s2
        | r => r
def sFor (p : Hh) (g : W → Lo → S → OG) (mi : Lo → S → R ItD) (b : Lo → S → RS) : Lo → S → RS := fun l s => match mi l s with
  | .ok d s1 => forI p g b d (d.cnt p s1 + 1) 0 l s1
  | .exc c w s1 => .exc c w l s1
  | .bad => .bad
theorem ss_for {iter : Expr} {body : List Stmt} {k : Nat} (cn : Cn X E k) (hi : SI G p E X tg iter mi) (hg : SG G p X tg g) (hb : SB G p E X body m) (hs : ∀ x, foldedSetIterable iter X.env x = pure x := by intro _; rfl) : SS G p E X (.For tg iter body [] pos) (sFor p g mi m) :=
  PS_imp (ps_for cn.own cn.calm hi hg hb hs) fun D σ H ⟨ρ, l, s, rl, rp, h⟩ => ⟨ρ, l, s, rl, rp, by
    unfold sFor at h
    cases e : mi l s with
    | bad => rw [e] at h; exact h.elim
    | exc c w s1 => rw [e] at h; exact fun ρ' H' d x y z => h ρ' H' d σ x y z (rl.mono x)
    | ok d s1 =>
      rw [e] at h
      dsimp only at h
      refine fun ρ0 H0 J x0 rp0 ri => ⟨fun i n σ' H' => ∃ ρ' l' s', Ex ρ0 H0 ρ' H' ∧ RL G ρ' H' l' σ' ∧ Rep G ρ' p s' H' ∧ PoS G p ρ' H' (forI p g m d n i l' s') D E, ⟨_, ρ0, l, s1, Ex.rfl', rl.mono x0, rp0, PoS.base h x0⟩, ?_⟩
      rintro i n σ1 H1 ⟨ρ1, l1, s2, x1, rl1, rp1, h1⟩
      cases n with
      | zero => exact h1.elim
      | succ n =>
        unfold forI at h1
        cases q : d.next p s2 i with
        | none => rw [q] at h1; exact h1.elim
        | some o =>
          rw [q] at h1
          cases o with
          | none => exact .inl ⟨ri.no i s2 ρ1 H1 x1 rp1 q, h1 ρ1 H1 σ1 Ex.rfl' rp1 rl1⟩
          | some w =>
            obtain ⟨go, yl⟩ := ri.yes i w s2 ρ1 H1 x1 rp1 q
            refine .inr ⟨go, fun σ' H' => ∃ ρ' l' s', Ex ρ0 H0 ρ' H' ∧ RL G ρ' H' l' σ' ∧ Rep G ρ' p s' H' ∧ PoS G p ρ' H' (forI p g m d n (i + 1) l' s') D E, fun σ' H' z => ⟨n, Nat.lt_succ_self n, z⟩, fun v H2 y => ?_⟩
            obtain ⟨x2, rp2, rv⟩ := yl v H2 y
            dsimp only at h1
            refine ⟨ρ1, l1, s2, w, rl1.mono x2, rp2, rv, ?_⟩
            cases q2 : g w l1 s2 with
            | none => rw [q2] at h1; exact h1.elim
            | some z =>
              obtain ⟨l3, s3⟩ := z
              rw [q2] at h1
              dsimp only at h1
              refine fun ρ3 H3 σ3 x3 rp3 rl3 => ⟨ρ3, l3, s3, rl3, rp3, ?_⟩
              have h1 := PoS.base h1 (x2.trans x3)
              cases q3 : m l3 s3 with
              | nx l4 s4 => rw [q3] at h1; exact fun ρ4 H4 σ4 x4 rp4 rl4 => ⟨ρ4, l4, s4, ((x1.trans x2).trans x3).trans x4, rl4, rp4, PoS.base h1 x4⟩
              | ct l4 s4 => rw [q3] at h1; exact fun ρ4 H4 σ4 x4 rp4 rl4 => ⟨ρ4, l4, s4, ((x1.trans x2).trans x3).trans x4, rl4, rp4, PoS.base h1 x4⟩
              | brk l4 s4 => rw [q3] at h1; exact h1
              | ret w4 s4 => rw [q3] at h1; exact h1
              | exc c w4 l4 s4 => rw [q3] at h1; exact h1
              | bad => rw [q3] at h1; exact h1⟩
/-! ### while -/
def whI (t : Lo → S → R Bool) (b : Lo → S → RS) : Nat → Lo → S → RS
  | 0, _, _ => .bad
  | n + 1, l, s => match t l s with
    | .bad => .bad
    | .exc c w s1 => .exc c w l s1
    | .ok false s1 => .nx l s1
    | .ok true s1 => match b l s1 with
      | .nx l2 s2 => whI t b n l2 s2
      | .ct l2 s2 => whI t b n l2 s2
      | .brk l2 s2 => .nx l2 s2
      | r => r
def sWh (n : Nat) (t : Lo → S → R Bool) (b : Lo → S → RS) : Lo → S → RS := whI t b n
theorem ss_while {body : List Stmt} {k : Nat} (n : Nat) (cn : Cn X E k) (hc : ST G p E X c ta) (hb : SB G p E X body m) : SS G p E X (.While c body [] pos) (sWh n ta m) :=
  PS_imp (ps_while cn.own hc hb) fun D σ H ⟨ρ, l, s, rl, rp, h⟩ => by
    refine ⟨fun n σ' H' => ∃ ρ' l' s', RL G ρ' H' l' σ' ∧ Rep G ρ' p s' H' ∧ PoS G p ρ' H' (whI ta m n l' s') D E, ⟨n, ρ, l, s, rl, rp, h⟩, ?_⟩
    rintro n σ1 H1 ⟨ρ1, l1, s1, rl1, rp1, h1⟩
    refine ⟨ρ1, l1, s1, rl1, rp1, ?_⟩
    cases n with
    | zero => exact h1.elim
    | succ n =>
      unfold whI at h1
      cases e : ta l1 s1 with
      | bad => rw [e] at h1; exact h1.elim
      | exc c w s1 => rw [e] at h1; exact fun ρ' H' d x y z => h1 ρ' H' d σ1 x y z (rl1.mono x)
      | ok bb s2 =>
        rw [e] at h1
        refine fun ρ2 H2 v x2 rp2 rv => ?_
        cases rv
        cases bb with
        | false => exact h1 ρ2 H2 σ1 x2 rp2 (rl1.mono x2)
        | true =>
          dsimp only at h1
          refine ⟨fun σ' H' => ∃ ρ' l' s', RL G ρ' H' l' σ' ∧ Rep G ρ' p s' H' ∧ PoS G p ρ' H' (whI ta m n l' s') D E, fun σ' H' z => ⟨n, Nat.lt_succ_self n, z⟩, ρ2, l1, s2, rl1.mono x2, rp2, ?_⟩
          have h1 := PoS.base h1 x2
          cases q3 : m l1 s2 with
          | nx l4 s4 => rw [q3] at h1; exact fun ρ4 H4 σ4 x4 rp4 rl4 => ⟨ρ4, l4, s4, rl4, rp4, PoS.base h1 x4⟩
          | ct l4 s4 => rw [q3] at h1; exact fun ρ4 H4 σ4 x4 rp4 rl4 => ⟨ρ4, l4, s4, rl4, rp4, PoS.base h1 x4⟩
          | brk l4 s4 => rw [q3] at h1; exact h1
          | ret w4 s4 => rw [q3] at h1; exact h1
          | exc c w4 l4 s4 => rw [q3] at h1; exact h1
          | bad => rw [q3] at h1; exact h1
end
end CC
set_option Elab.async false
set_option linter.all false
set_option maxRecDepth 100000
/-! CCG: a def's promise where no display is under way (so that repr may be used) -/
namespace CC
open PySem PySem.Spec PyProof.Rows L2

structure FnG (P : Program) (w : World) (K : PySem.W.Frag) (mg : Str → Option Value) (base : Heap) (k : Nat) (f : Addr) (fd : FuncData) (ps : List Str) (sp : Sp) : Prop where
  len : ∀ vs H Q E, sp vs H Q E → vs.length = ps.length
  run : ∀ (A : Around) (outer : List Env) (s : Shared) (H : Hp) (args : Args) (us : List Value) (vs : List V) (Q : VK) (E : XK), Room k A → A.guards = some [] → Env0 P w K mg base A outer s H → BindsTo s fd args (ps.zip us) → Vals vs us → sp vs H Q E →
    codeAny (model P w) A (.call (.ref f) args) (CR (L2.CX P w) outer P w H s Q E) s
theorem under_guards {A : Around} {C : Addr} {us : List Value} {kw : List (Str × Value)} : (A.under (.builtin "type.__call__" ⟨.ref C :: us, kw⟩)).guards = A.guards := by
  unfold Around.under
  simp [Code.guards, Code.isGuard, guardIds, pushGuards]
section
variable {P : Program} {w : World} {K : PySem.W.Frag} {mg : Str → Option Value} {base : Heap} {k : Nat} {f : Addr} {fd : FuncData} {ps : List Str} {sp : Sp}
theorem FnG.mono {j : Nat} (F : FnG P w K mg base j f fd ps sp) (h : j ≤ k) : FnG P w K mg base k f fd ps sp :=
  ⟨F.len, fun A outer s H args us vs Q E hr hg => F.run A outer s H args us vs Q E (hr.mono h) hg⟩
/-- a def by its body -/
theorem fnG_of {name qual : Str} {params : Arguments} {body : List Stmt} {scope : Scope} {dV kV doc pm cdv ct oc : Value} {an od : Option Addr} {osl : Array (Option Value)} {N : List Str}
    (lk : K.lookup f = some ⟨oc, od, .func (PySem.W.fnOf name qual params body scope dV kV doc pm an cdv ct), osl⟩) (hcd : PySem.W.codeIn K cdv qual = true) (sc : FnScope N ps scope) (len : ∀ vs H Q E, sp vs H Q E → vs.length = ps.length)
    (hb : ∀ (A : Around) (outer : List Env) (s : Shared) (H : Hp) (vs : List V) (Q : VK) (E : XK), Room k (A.deeper (envOfC qual scope s.heap.objs.size f cdv)) → A.guards = some [] → sp vs H Q E →
      ∃ t, PSs (cxOf (L2.CX P w) P w K mg base N qual scope f cdv A outer s H E) body t ∧ t { nx := fun _ H' => Q .non H', rt := Q } (L2.start N vs) H) :
    FnG P w K mg base (k + 1) f (PySem.W.fnOf name qual params body scope dV kV doc pm an cdv ct) ps sp := by
  refine ⟨len, fun A outer s H args us vs Q E room hgd e0 bnd rel hsp => ?_⟩
  have lenv := len _ _ _ _ hsp
  have kIn : K.In s.heap := e0.mod.kin.keeps fun b o e => (e0.bs b o e).1
  have noLim : s.heap.NoLimit := e0.mod.nolimit.keeps fun b o e => (e0.bs b o e).1
  have kinds : ∀ y ∈ ps.zip us, scope.names.lookup y.1 = some .local ∨ (scope.names.lookup y.1 = some .cell ∧ ((cellsFrom (s.heap.objs.size + 1) scope.names []).lookup y.1).isSome = true) := by
    rintro ⟨n, v⟩ hy
    rcases sc.par n (List.of_mem_zip hy).1 with q | q
    · exact .inl q
    · exact .inr ⟨q, PySem.W.cellsFrom_some _ _ _ (.inl q)⟩
  refine codeAny_call_function room.depth (kIn _ _ lk) rfl sc.co sc.gen rfl (PySem.W.codeRec_of kIn hcd) (bnd _ _ _ _ ?_)
  refine wpAny_newFunctionEnv_cells sc.kind kinds fun env he s1 x => ?_
  subst he
  refine ⟨noLim.keeps x.toInCall.keep, codeAny_func ?_⟩
  obtain ⟨t, ht, hq⟩ := hb A outer s H vs Q E (room.deeper _) hgd hsp
  have I : Inv (cxOf (L2.CX P w) P w K mg base N qual scope f cdv A outer s H E) [] (L2.start N vs) H s1 := inv_start sc room.hd e0 lenv rel x
  refine wpAny_mono (ht.run [] s1 (L2.start N vs) H _ I hq) (fun fl s' hs => ?_) fun _ _ hs => hs
  cases fl with
  | ret u =>
    obtain ⟨v, σ', H', J, rv, q⟩ := hs
    exact ⟨v, H', J.os, J.bare, J.base, J.hok, rv, q⟩
  | next =>
    obtain ⟨σ', H', J, q⟩ := hs
    exact ⟨.non, H', J.os, J.bare, J.base, J.hok, rfl, q⟩
  | brk =>
    obtain ⟨_, _, _, q⟩ := hs
    exact q.elim
  | cont =>
    obtain ⟨_, _, _, q⟩ := hs
    exact q.elim
end
section
variable {X : Cx} {k : Nat} {f C : Addr} {fd : FuncData} {ps : List Str} {sp : Sp} {dvs : List V} {ds : List Value} {E : L2.St → XK} {x : Str} {p pos : Pos} {e : Expr} {es : List Expr} {t : TA}
theorem run_fnG {pins : List (Addr × Obj)} {σ : L2.St} {H : Hp} {s : Shared} {Q : VK} {us : List Value} {vs : List V} (F : FnG X.prog X.w X.K X.mg X.base k f fd ps sp) (hr : Room k X.A) (hg : X.A.guards = some []) (hb : Binds X.K fd ps ds) (hd : Vals dvs ds) (hx : PassesAt (L2.CX X.prog X.w) X σ (E σ))
    (I : Inv X pins σ H s) (r : Vals vs us) (h : sp (vs ++ dvs) H Q (E σ)) : wpAny (model X.prog X.w) X.A (call (.ref f) us) (EP X pins σ Q) X.xe s := by
  have rr : Vals (vs ++ dvs) (us ++ ds) := r.append hd
  have ln : (us ++ ds).length = ps.length := by rw [← rr.length]; exact F.len _ _ _ _ h
  have go := F.run X.A X.stack s H ⟨us, []⟩ (us ++ ds) (vs ++ dvs) Q (E σ) hr hg I.env0 (hb s us I.kIn ln) rr h
  refine wpAny_call (codeAny_mono go fun r s' hq => ?_)
  match r, hq with
  | .error e, hq => exact hx pins H s e s' I hq
  | .ok (.ret u), hq => exact I.after hq
  | .ok .next, hq => exact hq.elim
  | .ok .brk, hq => exact hq.elim
  | .ok .cont, hq => exact hq.elim
theorem pe_callG (F : FnG X.prog X.w X.K X.mg X.base k f fd ps sp) (hr : Room k X.A) (hgd : X.A.guards = some []) (hg : Gl X x) (hm : X.mg x = some (.ref f)) (hk : PySem.W.keepIn X.K (.ref f) = true) (hb : Binds X.K fd ps ds) (hd : Vals dvs ds) (hx : ∀ σ, PassesAt (L2.CX X.prog X.w) X σ (E σ))
    (ha : PA X (e :: es) t) (hdb : (x == ("__debug__" : Str)) = false) (he : starEach (e :: es) X.env = (false, eval e X.env) :: starEach es X.env) (hpl : (backTo pos (starEach es X.env)).any (·.1) = false) :
    PE X (.Call (.Name x p) (e :: es) [] pos) (tCallSD sp dvs E t) := by
  refine ⟨fun pins s σ H Q I h => wpAny_Call_Name_kw (ld_glob I hg hm ?_ hdb)⟩
  refine PySem.W.callWith_K (h₀ := X.base) I.ok.mod.kin hk (thn (ha.run pos pins s σ H _ I h) ?_) he hpl
  rintro us s1 ⟨vs, H1, I1, r, q⟩
  exact ⟨I1.kIn, run_fnG F hr hgd hb hd (hx σ) I1 r q⟩
/-- C(..), the new instance's cell given to __init__ -/
theorem run_mkG {pins : List (Addr × Obj)} {σ : L2.St} {H : Hp} {s : Shared} {Q : VK} {us : List Value} {vs : List V} (M : Mk X.K C f) (F : FnG X.prog X.w X.K X.mg X.base k f fd ps sp) (hr : Room (k + 1) X.A) (hgd : X.A.guards = some []) (hb : Binds X.K fd ps ds) (hd : Vals dvs ds)
    (hx : PassesAt (L2.CX X.prog X.w) X σ (E σ)) (I : Inv X pins σ H s) (r : Vals vs us)
    (h : ∀ x dx, H x = none → H dx = none → dx ≠ x → sp (.ref x :: (vs ++ dvs)) (upd (upd H dx (.own x)) x (.ins C dx [])) (fun v H2 => v = .non ∧ Q (.ref x) H2) (E σ)) :
    wpAny (model X.prog X.w) X.A (call (.ref C) us) (EP X pins σ Q) X.xe s := by
  have hz := h (s.heap.objs.size + 1) s.heap.objs.size (I.hok.fresh (Nat.le_succ _)) (I.hok.fresh (Nat.le_refl _)) (Nat.ne_of_lt (Nat.lt_succ_self _))
  have J := Inv.made (C := C) I
  have rr : Vals (V.ref (s.heap.objs.size + 1) :: (vs ++ dvs)) (Value.ref (s.heap.objs.size + 1) :: (us ++ ds)) := .cons rfl (r.append hd)
  have ln : (Value.ref (s.heap.objs.size + 1) :: us ++ ds).length = ps.length := by
    have e := rr.length
    rw [F.len _ _ _ _ hz] at e
    exact e.symm
  have go := F.run _ X.stack _ _ ⟨Value.ref (s.heap.objs.size + 1) :: us, []⟩ (Value.ref (s.heap.objs.size + 1) :: (us ++ ds)) _ _ (E σ) (hr.make C us []) (by rw [under_guards]; exact hgd)
      (J.env0.make C us []) (hb _ (Value.ref (s.heap.objs.size + 1) :: us) J.kIn ln) rr hz
  refine wpAny_call (make_map (f := f) I.kIn M.makes M.init (beq_iff_eq.mp M.fn) (codeAny_mono go fun r s' q => ?_))
  match r, q with
  | .error e, q => exact hx pins _ _ e s' J q
  | .ok (.ret u), q =>
    obtain ⟨v, H', J3, rv, ev, q3⟩ := J.after q
    subst ev
    exact ⟨rv, ⟨V.ref (s.heap.objs.size + 1), H', J3, rfl, q3⟩⟩
  | .ok .next, q => exact q.elim
  | .ok .brk, q => exact q.elim
  | .ok .cont, q => exact q.elim
end
end CC
set_option Elab.async false
set_option linter.all false
set_option maxRecDepth 100000
/-! CCCall: what a call leaves of its cells; the call of a def, of a method, of a class -/
namespace CC
open PySem PySem.Spec PyProof.Rows L2

def refsOv (n : Nat) : List (Nat × Ob) → List Nat
  | [] => []
  | (_, o) :: r => refsOb n o ++ refsOv n r
def rnOv (n : Nat) (keep : List Nat) : List (Nat × Ob) → Option (List (Nat × Ob))
  | [] => some []
  | (m, o) :: r => match rnOb n keep o, rnOv n keep r with
    | some o', some r' => some ((m, o') :: r')
    | _, _ => none
def rnLoc (n : Nat) (keep : List Nat) (loc : List Ob) : List Nat → Option (List Ob)
  | [] => some []
  | m :: r => match loc[m]? with
    | none => none
    | some o => match rnOb n keep o, rnLoc n keep loc r with
      | some o', some r' => some (o' :: r')
      | _, _ => none
/-- only what the value and the overrides speak of is kept of the new cells -/
def gcS (n : Nat) (w : W) (s : S) : Option (W × S) :=
  match refsW n w ++ refsOv n s.ov with
  | [] => some (w, ⟨s.ov, []⟩)
  | r => match s.loc with
    | [] => some (w, s)
    | _ =>
      let keep := closeK n s.loc 100000 r []
      match rnW n keep w, rnOv n keep s.ov, rnLoc n keep s.loc keep with
      | some w', some ov', some loc' => some (w', ⟨ov', loc'⟩)
      | _, _, _ => none
/-- a def by its body -/
def fnI (np N : Nat) (b : Hh → Lo → S → RS) : Hh → List W → R W := fun p ws => if ws.length = np then fnB N b p ws else .bad
  where
  fnB (N : Nat) (b : Hh → Lo → S → RS) (p : Hh) (ws : List W) : R W := match b p (ws.map some ++ List.replicate (N - ws.length) none) ⟨[], []⟩ with
  | .ret w s => R.ofO (gcS p.length w s)
  | .nx _ s => R.ofO (gcS p.length .non s)
  | .exc c w _ s => (match gcS p.length w s with
    | some (w', s') => .exc c w' s'
    | none => .bad)
  | _ => .bad

/-! ### that it is sound -/
theorem ixOf_get {m : Nat} : ∀ {keep : List Nat} {i j : Nat}, ixOf m keep i = some j → i ≤ j ∧ keep[j - i]? = some m
  | [], _, _, h => by simp [ixOf] at h
  | a :: r, i, j, h => by
    simp only [ixOf] at h
    by_cases e : a = m
    · rw [if_pos e] at h
      cases h
      exact ⟨Nat.le_refl _, by simp [e]⟩
    · rw [if_neg e] at h
      obtain ⟨h1, h2⟩ := ixOf_get h
      refine ⟨by omega, ?_⟩
      obtain ⟨d, rfl⟩ : ∃ d, j = i + 1 + d := ⟨j - (i + 1), by omega⟩
      have e1 : i + 1 + d - i = d + 1 := by omega
      have e2 : i + 1 + d - (i + 1) = d := by omega
      rw [e1]
      rw [e2] at h2
      simpa using h2
theorem closeK_nd {n : Nat} {loc : List Ob} : ∀ {f : Nat} {todo keep : List Nat}, keep.Nodup → (∀ m ∈ keep, m < loc.length) → (closeK n loc f todo keep).Nodup ∧ ∀ m ∈ closeK n loc f todo keep, m < loc.length
  | 0, _, _, h, h2 => ⟨h, h2⟩
  | _ + 1, [], _, h, h2 => ⟨h, h2⟩
  | f + 1, m :: todo, keep, h, h2 => by
    simp only [closeK]
    split
    · exact closeK_nd h h2
    · rename_i hm
      cases e : loc[m]? with
      | none => exact closeK_nd h h2
      | some o =>
        refine closeK_nd (List.nodup_append.mpr ⟨h, by simp, fun a ha b hb => ?_⟩) fun a ha => ?_
        · rw [List.mem_singleton.mp hb]
          exact fun e => hm (e ▸ ha)
        · rcases List.mem_append.mp ha with ha | ha
          · exact h2 a ha
          · rw [List.mem_singleton.mp ha]
            exact (List.getElem?_eq_some_iff.mp e).1
section
variable {G : GE} {p : Hh} {ρ ρ' : List Addr} {H : Hp} {n : Nat} {keep : List Nat}
mutual
theorem rn_ok (sub : ∀ a, a ∈ ρ' → a ∈ ρ) (lo : ∀ m a, m < n → ρ[m]? = some a → ρ'[m]? = some a) (hi : ∀ j m a, keep[j]? = some m → ρ[n + m]? = some a → ρ'[n + j]? = some a) : ∀ {w w' : W} {v : V}, rnW n keep w = some w' → RV G ρ H w v → RV G ρ' H w' v
  | .non, w', v, h, r => by simp only [rnW] at h; cases h; cases r; exact .non
  | .bl b, w', v, h, r => by simp only [rnW] at h; cases h; cases r; exact .bl b
  | .int i, w', v, h, r => by simp only [rnW] at h; cases h; cases r; exact .int i
  | .str z, w', v, h, r => by simp only [rnW] at h; cases h; cases r; exact .str z
  | .ref m, w', v, h, r => by
    simp only [rnW] at h
    cases r with
    | @ref _ a e =>
      by_cases hm : m < n
      · rw [if_pos hm] at h
        cases h
        exact .ref (lo m a hm e)
      · rw [if_neg hm] at h
        cases q : ixOf (m - n) keep 0 with
        | none => rw [q] at h; cases h
        | some j =>
          rw [q] at h
          cases h
          obtain ⟨_, h2⟩ := ixOf_get q
          refine .ref (hi j (m - n) a (by simpa using h2) ?_)
          have e1 : n + (m - n) = m := by omega
          rw [e1]; exact e
  | .tup ws, w', v, h, r => by
    simp only [rnW] at h
    cases r with
    | tup na ha r =>
      cases q : rnWs n keep ws with
      | none => rw [q] at h; cases h
      | some ws' =>
        rw [q] at h
        cases h
        exact .tup (fun m => na (sub _ m)) ha (rns_ok sub lo hi q r)
theorem rns_ok (sub : ∀ a, a ∈ ρ' → a ∈ ρ) (lo : ∀ m a, m < n → ρ[m]? = some a → ρ'[m]? = some a) (hi : ∀ j m a, keep[j]? = some m → ρ[n + m]? = some a → ρ'[n + j]? = some a) : ∀ {ws ws' : List W} {vs : List V}, rnWs n keep ws = some ws' → RVs G ρ H ws vs → RVs G ρ' H ws' vs
  | [], ws', vs, h, r => by simp only [rnWs] at h; cases h; cases r; exact .nil
  | w :: ws, ws', vs, h, r => by
    simp only [rnWs] at h
    cases r with
    | cons r1 r2 =>
      cases q : rnW n keep w with
      | none => rw [q] at h; cases h
      | some w1 =>
        rw [q] at h
        cases q2 : rnWs n keep ws with
        | none => rw [q2] at h; cases h
        | some ws1 =>
          rw [q2] at h
          cases h
          exact .cons (rn_ok sub lo hi q r1) (rns_ok sub lo hi q2 r2)
end
theorem rnWs_len : ∀ {ws ws' : List W}, rnWs n keep ws = some ws' → ws'.length = ws.length
  | [], ws', h => by simp only [rnWs] at h; cases h; rfl
  | w :: ws, ws', h => by
    simp only [rnWs] at h
    cases q : rnW n keep w with
    | none => rw [q] at h; cases h
    | some w1 =>
      rw [q] at h
      cases q2 : rnWs n keep ws with
      | none => rw [q2] at h; cases h
      | some ws1 =>
        rw [q2] at h
        cases h
        simp [rnWs_len q2]
theorem rno_ok (sub : ∀ a, a ∈ ρ' → a ∈ ρ) (lo : ∀ m a, m < n → ρ[m]? = some a → ρ'[m]? = some a) (hi : ∀ j m a, keep[j]? = some m → ρ[n + m]? = some a → ρ'[n + j]? = some a) {o o' : Ob} {u : HO} (h : rnOb n keep o = some o') (r : RO G ρ H o u) : RO G ρ' H o' u := by
  cases r with
  | @lst ws vs r =>
    simp only [rnOb] at h
    cases q : rnWs n keep ws with
    | none => rw [q] at h; cases h
    | some ws' => rw [q] at h; cases h; exact .lst (rns_ok sub lo hi q r)
  | frz => simp only [rnOb] at h; cases h; exact .frz
  | @dK kvs ks r r2 =>
    simp only [rnOb] at h
    cases q : rnWs n keep (kvs.map (·.2)) with
    | none => rw [q] at h; cases h
    | some a =>
      rw [q] at h
      cases h
      have l1 := rnWs_len q
      rw [List.length_map] at l1
      refine .dK ?_ ?_
      · rw [List.map_fst_zip (by simp; omega)]
        exact r
      · rw [List.map_snd_zip (by simp; omega)]
        exact rns_ok sub lo hi q r2
  | @dT kvs ks r r2 =>
    simp only [rnOb] at h
    cases q : rnWs n keep (kvs.map (·.2)) with
    | none => rw [q] at h; cases h
    | some a =>
      rw [q] at h
      cases h
      have l1 := rnWs_len q
      rw [List.length_map] at l1
      refine .dT ?_ ?_
      · rw [List.map_fst_zip (by simp; omega)]
        exact r
      · rw [List.map_snd_zip (by simp; omega)]
        exact rns_ok sub lo hi q r2
  | @ins c fs gs dx k r =>
    simp only [rnOb] at h
    cases q : rnWs n keep (fs.map (·.2)) with
    | none => rw [q] at h; cases h
    | some a =>
      rw [q] at h
      cases h
      have l1 := rnWs_len q
      rw [List.length_map] at l1
      refine .ins ?_ ?_
      · rw [← k]
        have e : ((fs.map (·.1)).zip a).map (fun p => (G.fld c)[p.1]?) = (((fs.map (·.1)).zip a).map (·.1)).map (fun i => (G.fld c)[i]?) := by rw [List.map_map]; rfl
        rw [e, List.map_fst_zip (by simp; omega), List.map_map]
        rfl
      · rw [List.map_snd_zip (by simp; omega)]
        exact rns_ok sub lo hi q r
mutual
theorem rv_less (sub : ∀ a, a ∈ ρ' → a ∈ ρ) (lo : ∀ m a, m < n → ρ[m]? = some a → ρ'[m]? = some a) : ∀ {w : W} {v : V}, RV G ρ H w v → refsW n w = [] → RV G ρ' H w v
  | _, _, .non, h => .non
  | _, _, .bl b, h => .bl b
  | _, _, .int i, h => .int i
  | _, _, .str z, h => .str z
  | _, _, @RV.ref _ _ _ m a e, h => by
    simp only [refsW] at h
    by_cases hm : m < n
    · exact .ref (lo _ _ hm e)
    · rw [if_neg hm] at h; cases h
  | _, _, .tup na ha r, h => .tup (fun m => na (sub _ m)) ha (rvs_less sub lo r (by simpa only [refsW] using h))
theorem rvs_less (sub : ∀ a, a ∈ ρ' → a ∈ ρ) (lo : ∀ m a, m < n → ρ[m]? = some a → ρ'[m]? = some a) : ∀ {ws : List W} {vs : List V}, RVs G ρ H ws vs → refsWs n ws = [] → RVs G ρ' H ws vs
  | _, _, .nil, h => .nil
  | _, _, .cons r1 r2, h => by
    simp only [refsWs] at h
    obtain ⟨h1, h2⟩ := List.append_eq_nil_iff.mp h
    exact .cons (rv_less sub lo r1 h1) (rvs_less sub lo r2 h2)
end
theorem ro_less (sub : ∀ a, a ∈ ρ' → a ∈ ρ) (lo : ∀ m a, m < n → ρ[m]? = some a → ρ'[m]? = some a) {o : Ob} {u : HO} (h : refsOb n o = []) (r : RO G ρ H o u) : RO G ρ' H o u := by
  cases r with
  | lst r => exact .lst (rvs_less sub lo r h)
  | frz => exact .frz
  | dK r r2 => exact .dK r (rvs_less sub lo r2 h)
  | dT r r2 => exact .dT r (rvs_less sub lo r2 h)
  | ins k r => exact .ins k (rvs_less sub lo r h)
theorem look_rnOv : ∀ {ov ov' : List (Nat × Ob)} {m : Nat}, rnOv n keep ov = some ov' → (lookN m ov = none → lookN m ov' = none) ∧ ∀ o, lookN m ov = some o → ∃ o', lookN m ov' = some o' ∧ rnOb n keep o = some o'
  | [], ov', m, h => by simp only [rnOv] at h; cases h; exact ⟨fun h => h, fun o q => by cases q⟩
  | (k, u) :: r, ov', m, h => by
    simp only [rnOv] at h
    cases q : rnOb n keep u with
    | none => rw [q] at h; cases h
    | some u' =>
      cases q2 : rnOv n keep r with
      | none => rw [q, q2] at h; cases h
      | some r' =>
        rw [q, q2] at h
        cases h
        obtain ⟨i1, i2⟩ := look_rnOv (m := m) q2
        simp only [lookN]
        by_cases e : m = k
        · simp only [if_pos e]
          refine ⟨(fun z => nomatch z), fun o z => ?_⟩
          cases z
          exact ⟨u', rfl, q⟩
        · simp only [if_neg e]
          exact ⟨i1, i2⟩
theorem look_refs : ∀ {ov : List (Nat × Ob)} {m : Nat} {o : Ob}, refsOv n ov = [] → lookN m ov = some o → refsOb n o = []
  | [], m, o, h, q => by cases q
  | (k, u) :: r, m, o, h, q => by
    simp only [refsOv] at h
    obtain ⟨h1, h2⟩ := List.append_eq_nil_iff.mp h
    simp only [lookN] at q
    by_cases e : m = k
    · rw [if_pos e] at q; cases q; exact h1
    · rw [if_neg e] at q; exact look_refs h2 q
theorem rnLoc_get {loc : List Ob} : ∀ {ks : List Nat} {loc' : List Ob} {j : Nat} {o' : Ob}, rnLoc n keep loc ks = some loc' → loc'[j]? = some o' → ∃ m o, ks[j]? = some m ∧ loc[m]? = some o ∧ rnOb n keep o = some o'
  | [], loc', j, o', h, q => by simp only [rnLoc] at h; cases h; simp at q
  | m :: r, loc', j, o', h, q => by
    simp only [rnLoc] at h
    cases e : loc[m]? with
    | none => rw [e] at h; cases h
    | some o =>
      rw [e] at h
      dsimp only at h
      cases e2 : rnOb n keep o with
      | none => rw [e2] at h; cases h
      | some o1 =>
        cases e3 : rnLoc n keep loc r with
        | none => rw [e2, e3] at h; cases h
        | some l1 =>
          rw [e2, e3] at h
          cases h
          cases j with
          | zero => simp at q; subst q; exact ⟨m, o, rfl, e, e2⟩
          | succ j => exact rnLoc_get (ks := r) (loc' := l1) (j := j) e3 (by simpa using q)
theorem rnLoc_len {loc : List Ob} : ∀ {ks : List Nat} {loc' : List Ob}, rnLoc n keep loc ks = some loc' → loc'.length = ks.length
  | [], loc', h => by simp only [rnLoc] at h; cases h; rfl
  | m :: r, loc', h => by
    simp only [rnLoc] at h
    cases e : loc[m]? with
    | none => rw [e] at h; cases h
    | some o =>
      rw [e] at h
      dsimp only at h
      cases e2 : rnOb n keep o with
      | none => rw [e2] at h; cases h
      | some o1 =>
        cases e3 : rnLoc n keep loc r with
        | none => rw [e2, e3] at h; cases h
        | some l1 => rw [e2, e3] at h; cases h; simp [rnLoc_len e3]
mutual
theorem rv_in : ∀ {w : W} {v : V}, RV G ρ H w v → refsW ρ.length w = []
  | _, _, .non => rfl
  | _, _, .bl b => rfl
  | _, _, .int i => rfl
  | _, _, .str z => rfl
  | _, _, @RV.ref _ _ _ m a e => by
    simp only [refsW]
    rw [if_pos (List.getElem?_eq_some_iff.mp e).1]
  | _, _, .tup na ha r => by simp only [refsW]; exact rvs_in r
theorem rvs_in : ∀ {ws : List W} {vs : List V}, RVs G ρ H ws vs → refsWs ρ.length ws = []
  | _, _, .nil => rfl
  | _, _, .cons r1 r2 => by simp only [refsWs]; rw [rv_in r1, rvs_in r2]; rfl
end
theorem ro_in {o : Ob} {u : HO} (r : RO G ρ H o u) : refsOb ρ.length o = [] := by
  cases r with
  | lst r => exact rvs_in r
  | frz => rfl
  | dK r r2 => exact rvs_in r2
  | dT r r2 => exact rvs_in r2
  | ins k r => exact rvs_in r
theorem gc_ok {ρ0 : List Addr} {H0 : Hp} {s s' : S} {w w' : W} (rp0 : Rep G ρ0 p ⟨[], []⟩ H0) (x : Ex ρ0 H0 ρ H) (rp : Rep G ρ p s H) (h : gcS p.length w s = some (w', s')) :
    ∃ ρ', Ex ρ0 H0 ρ' H ∧ Rep G ρ' p s' H ∧ (∀ v, RV G ρ H w v → RV G ρ' H w' v) ∧ ∀ a, a ∈ ρ' → a ∈ ρ := by
  have l0 : ρ0.length = p.length := by rw [rp0.len]; rfl
  have sub0 : ∀ a, a ∈ ρ0 → a ∈ ρ := fun a ha => by
    obtain ⟨l, rfl⟩ := x.pre
    exact List.mem_append_left _ ha
  have lo0 : ∀ m a, m < p.length → ρ[m]? = some a → ρ0[m]? = some a := fun m a hm e => by
    obtain ⟨l, rfl⟩ := x.pre
    rwa [List.getElem?_append_left (by omega)] at e
  -- a cell of the entry that was not written speaks of cells of the entry alone
  have old : ∀ m o, m < p.length → p[m]? = some o → refsOb p.length o = [] := fun m o hm e => by
    have e' : rd p ⟨[], []⟩ m = some o := by unfold rd; rw [if_pos hm]; exact e
    obtain ⟨a, u, _, _, r⟩ := rp0.has m o e'
    rw [← l0]
    exact ro_in r
  unfold gcS at h
  cases q : refsW p.length w ++ refsOv p.length s.ov with
  | nil =>
    rw [q] at h
    cases h
    obtain ⟨h1, h2⟩ := List.append_eq_nil_iff.mp q
    refine ⟨ρ0, ⟨⟨[], by simp⟩, fun a m n => absurd m n, x.keep⟩, ⟨by rw [l0]; rfl, rp0.nd, fun m o e => ?_⟩, fun v rv => rv_less sub0 lo0 rv h1, sub0⟩
    unfold rd at e
    by_cases hm : m < p.length
    · rw [if_pos hm] at e
      have e' : rd p s m = some o := by unfold rd; rw [if_pos hm]; exact e
      obtain ⟨a, u, e1, e2, r⟩ := rp.has m o e'
      refine ⟨a, u, lo0 m a hm e1, e2, ro_less sub0 lo0 ?_ r⟩
      dsimp only at e
      cases q2 : lookN m s.ov with
      | none => rw [q2] at e; exact old m o hm e
      | some o2 => rw [q2] at e; cases e; exact look_refs h2 q2
    · rw [if_neg hm] at e
      simp at e
  | cons r0 rr =>
    rw [q] at h
    dsimp only at h
    cases ql : s.loc with
    | nil =>
      rw [ql] at h
      cases h
      exact ⟨ρ, x, rp, fun v rv => rv, fun a m => m⟩
    | cons c0 cr =>
      rw [ql] at h
      dsimp only at h
      rw [← ql] at h
      generalize hk : closeK p.length s.loc 100000 (r0 :: rr) [] = keep at h
      obtain ⟨knd, klt⟩ := closeK_nd (n := p.length) (loc := s.loc) (f := 100000) (todo := r0 :: rr) (keep := []) (by simp) (fun m hm => by simp at hm)
      rw [hk] at knd klt
      cases q1 : rnW p.length keep w with
      | none => rw [q1] at h; cases h
      | some w1 =>
        cases q2 : rnOv p.length keep s.ov with
        | none => rw [q1, q2] at h; cases h
        | some ov1 =>
          cases q3 : rnLoc p.length keep s.loc keep with
          | none => rw [q1, q2, q3] at h; cases h
          | some loc1 =>
            rw [q1, q2, q3] at h
            cases h
            have ll : ρ.length = p.length + s.loc.length := rp.len
            have kat : ∀ m, m ∈ keep → ρ[p.length + m]? = some ((ρ[p.length + m]?).getD 0) := fun m hm => by
              have : p.length + m < ρ.length := by have := klt m hm; omega
              rw [List.getElem?_eq_getElem this]; rfl
            generalize hρ : keep.map (fun m => (ρ[p.length + m]?).getD 0) = ρ2
            have hi : ∀ j m a, keep[j]? = some m → ρ[p.length + m]? = some a → (ρ0 ++ ρ2)[p.length + j]? = some a := fun j m a e1 e2 => by
              rw [List.getElem?_append_right (by omega), l0, ← hρ, List.getElem?_map]
              have ej : p.length + j - p.length = j := by omega
              rw [ej, e1]
              simp [e2]
            have lo : ∀ m a, m < p.length → ρ[m]? = some a → (ρ0 ++ ρ2)[m]? = some a := fun m a hm e => by
              rw [List.getElem?_append_left (by omega)]
              exact lo0 m a hm e
            have mem2 : ∀ a, a ∈ ρ2 → ∃ m, m ∈ keep ∧ ρ[p.length + m]? = some a := fun a ha => by
              rw [← hρ] at ha
              obtain ⟨m, hm, rfl⟩ := List.mem_map.mp ha
              exact ⟨m, hm, kat m hm⟩
            have sub : ∀ a, a ∈ ρ0 ++ ρ2 → a ∈ ρ := fun a ha => by
              rcases List.mem_append.mp ha with ha | ha
              · exact sub0 a ha
              · obtain ⟨m, _, e⟩ := mem2 a ha
                exact List.mem_of_getElem? e
            have len2 : ρ2.length = keep.length := by rw [← hρ, List.length_map]
            refine ⟨ρ0 ++ ρ2, ⟨⟨ρ2, rfl⟩, fun a m n => x.new a (sub a m) n, x.keep⟩, ⟨?_, ?_, fun m o e => ?_⟩, fun v rv => rn_ok sub lo hi q1 rv, sub⟩
            · rw [List.length_append, l0, len2, ← rnLoc_len q3]; rfl
            · refine List.nodup_append.mpr ⟨rp0.nd, ?_, fun a ha b hb e => ?_⟩
              · rw [← hρ]
                refine List.pairwise_map.mpr (List.Pairwise.imp_of_mem (fun {a b} ha hb ne e => ?_) knd)
                have e1 := kat a ha
                rw [e] at e1
                have := nodup_get rp.nd e1 (kat b hb)
                exact ne (by omega)
              · subst e
                obtain ⟨m, _, e2⟩ := mem2 a hb
                obtain ⟨j, hj, ej⟩ := List.getElem_of_mem ha
                have ej' : ρ[j]? = some a := x.get (by rw [List.getElem?_eq_getElem hj, ej])
                have := nodup_get rp.nd ej' e2
                omega
            · unfold rd at e
              by_cases hm : m < p.length
              · rw [if_pos hm] at e
                dsimp only at e
                obtain ⟨i1, i2⟩ := look_rnOv (m := m) q2
                cases q4 : lookN m s.ov with
                | none =>
                  rw [i1 q4] at e
                  have e' : rd p s m = some o := by unfold rd; rw [if_pos hm, q4]; exact e
                  obtain ⟨a, u, e1, e2, r⟩ := rp.has m o e'
                  exact ⟨a, u, lo m a hm e1, e2, ro_less sub lo (old m o hm e) r⟩
                | some o2 =>
                  obtain ⟨o3, e3, e4⟩ := i2 o2 q4
                  rw [e3] at e
                  cases e
                  have e' : rd p s m = some o2 := by unfold rd; rw [if_pos hm, q4]
                  obtain ⟨a, u, e1, e2, r⟩ := rp.has m o2 e'
                  exact ⟨a, u, lo m a hm e1, e2, rno_ok sub lo hi e4 r⟩
              · rw [if_neg hm] at e
                dsimp only at e
                obtain ⟨m', o2, e1, e2, e3⟩ := rnLoc_get q3 e
                have e' : rd p s (p.length + m') = some o2 := by
                  unfold rd
                  rw [if_neg (by omega)]
                  have : p.length + m' - p.length = m' := by omega
                  rw [this]; exact e2
                obtain ⟨a, u, f1, f2, r⟩ := rp.has _ o2 e'
                refine ⟨a, u, ?_, f2, rno_ok sub lo hi e3 r⟩
                have em : m = p.length + (m - p.length) := by omega
                rw [em]
                exact hi _ _ _ e1 f1
end

/-! ### a def -/
/-- np arguments, the mirror F -/
def spI (G : GE) (F : Hh → List W → R W) : Sp := fun vs H Q E => ∃ ρ p ws, RVs G ρ H ws vs ∧ Rep G ρ p ⟨[], []⟩ H ∧ PoV G p ρ H (F p ws) Q E
theorem fnI_len {G : GE} {p : Hh} {ρ : List Addr} {H : Hp} {np N : Nat} {b : Hh → Lo → S → RS} {ws : List W} {Q : VK} {E : XK} (h : PoV G p ρ H (fnI np N b p ws) Q E) : ws.length = np ∧ PoV G p ρ H (fnI.fnB N b p ws) Q E := by
  unfold fnI at h
  split at h
  · rename_i hl; exact ⟨hl, h⟩
  · exact h.elim
theorem start_rl {G : GE} {ρ : List Addr} {H : Hp} {ws : List W} {vs : List V} {N : List Str} (r : RVs G ρ H ws vs) (hj : G.J ρ (L2.start N vs) H) : RL G ρ H (ws.map some ++ List.replicate (N.length - ws.length) none) (L2.start N vs) := by
  refine ⟨by unfold L2.start; simp [r.len], fun i w e => ?_, hj⟩
  unfold L2.start
  by_cases hi : i < ws.length
  · rw [List.getElem?_append_left (by simpa using hi), List.getElem?_map] at e
    cases q : ws[i]? with
    | none => rw [q] at e; cases e
    | some w' =>
      rw [q] at e
      cases e
      obtain ⟨v, h1, h2⟩ := r.get q
      refine ⟨v, ?_, h2⟩
      rw [List.getElem?_append_left (by rw [List.length_map, ← r.len]; exact hi), List.getElem?_map, h1]
      rfl
  · rw [List.getElem?_append_right (by simpa using Nat.le_of_not_lt hi)] at e
    have e' := List.mem_of_getElem? e
    have := List.eq_of_mem_replicate e'
    cases this
theorem RX.less {G : GE} {ρ ρ' : List Addr} {H : Hp} {c : Nat} {w w' : W} {d : Option Addr} (sub : ∀ a, a ∈ ρ' → a ∈ ρ) (h : ∀ v, RV G ρ H w v → RV G ρ' H w' v) (r : RX G ρ H c w d) : RX G ρ' H c w' d := by
  unfold RX at *
  split
  · trivial
  · rename_i f hf
    rw [hf] at r
    obtain ⟨dd, v, e1, n, e2, q⟩ := r
    exact ⟨dd, v, e1, fun m => n (sub _ m), e2, h v q⟩
/-- a body's end is a def's end -/
theorem fnI_ok {G : GE} {p : Hh} {ρ : List Addr} {H : Hp} {N : Nat} {b : Hh → Lo → S → RS} {ws : List W} {Q : VK} {E : XK} (rp : Rep G ρ p ⟨[], []⟩ H) (h : PoV G p ρ H (fnI.fnB N b p ws) Q E) :
    PoS G p ρ H (b p (ws.map some ++ List.replicate (N - ws.length) none) ⟨[], []⟩) { nx := fun _ H' => Q .non H', rt := Q } (fun c d _ H' => E c d H') := by
  unfold fnI.fnB at h
  cases e : b p (ws.map some ++ List.replicate (N - ws.length) none) ⟨[], []⟩ with
  | ret w s =>
    rw [e] at h
    intro ρ1 H1 v x rp1 rv
    dsimp only at h
    cases q : gcS p.length w s with
    | none => rw [q] at h; exact h.elim
    | some z =>
      obtain ⟨w', s'⟩ := z
      rw [q] at h
      obtain ⟨ρ', x', rp', hv, _⟩ := gc_ok rp x rp1 q
      exact h ρ' H1 v x' rp' (hv v rv)
  | nx l s =>
    rw [e] at h
    intro ρ1 H1 v x rp1 rv
    dsimp only at h
    cases q : gcS p.length .non s with
    | none => rw [q] at h; exact h.elim
    | some z =>
      obtain ⟨w', s'⟩ := z
      rw [q] at h
      obtain ⟨ρ', x', rp', hv, _⟩ := gc_ok rp x rp1 q
      exact h ρ' H1 _ x' rp' (hv _ .non)
  | exc c w l s =>
    rw [e] at h
    intro ρ1 H1 d σ' x rp1 rx rl
    dsimp only at h
    cases q : gcS p.length w s with
    | none => rw [q] at h; exact h.elim
    | some z =>
      obtain ⟨w', s'⟩ := z
      rw [q] at h
      obtain ⟨ρ', x', rp', hv, sub⟩ := gc_ok rp x rp1 q
      exact h ρ' H1 d x' rp' (rx.less sub hv)
  | brk l s => rw [e] at h; exact h.elim
  | ct l s => rw [e] at h; exact h.elim
  | bad => rw [e] at h; exact h.elim
section
variable {P : Program} {w : World} {K : PySem.W.Frag} {mg : Str → Option Value} {base : Heap} {G : GE}
abbrev XOf (P : Program) (w : World) (K : PySem.W.Frag) (mg : Str → Option Value) (base : Heap) (N : List Str) (qual : Str) (sc : Scope) (f : Addr) (cdv : Value) (A : Around) (outer : List Env) (s : Shared) (H : Hp) (E : XK) : Cx :=
  cxOf (L2.CX P w) P w K mg base N qual sc f cdv A outer s H E
theorem cn_of {N : List Str} {qual : Str} {sc : Scope} {f : Addr} {cdv : Value} {A : Around} {outer : List Env} {s : Shared} {H : Hp} {E : XK} {k : Nat} (nd : N.Nodup) (hr : Room k (A.deeper (envOfC qual sc s.heap.objs.size f cdv))) (hg : A.guards = some []) :
    Cn (XOf P w K mg base N qual sc f cdv A outer s H E) (fun c d _ H' => E c d H') k :=
  ⟨rfl, hr, takes_of rfl rfl rfl rfl, passes_of rfl, nd, hg⟩
theorem fn_ok (hJ : ∀ ρ σ H, G.J ρ σ H) {x qual : Str} {st : Stmt} {f : Addr} {fd : FuncData} {N ps : List Str} {k : Nat} {b : Hh → Lo → S → RS} (F : Fun K x qual st f fd) (sc : FnScope N ps (defScope st))
    (hb : ∀ (cdv : Value) (A : Around) (outer : List Env) (s : Shared) (H : Hp) (E : XK) (p : Hh), Cn (XOf P w K mg base N qual (defScope st) f cdv A outer s H E) (fun c d _ H' => E c d H') k →
      SB G p (fun c d _ H' => E c d H') (XOf P w K mg base N qual (defScope st) f cdv A outer s H E) (defBody st) (b p)) :
    FnG P w K mg base (k + 1) f fd ps (spI G (fnI ps.length N.length b)) := by
  obtain ⟨oc, od, kV, doc, pm, an, cdv, ct, osl, rfl, lk, hcd⟩ := F.ex
  refine fnG_of lk hcd sc (fun vs H Q E h => ?_) fun A outer s H vs Q E hr hg h => ?_
  · obtain ⟨ρ, p, ws, rv, rp, h⟩ := h
    rw [← rv.len]; exact (fnI_len h).1
  obtain ⟨ρ, p, ws, rv, rp, h⟩ := h
  exact ⟨_, hb cdv A outer s H E p (cn_of sc.nd hr hg), ρ, _, _, start_rl rv (hJ _ _ _), rp, fnI_ok rp (fnI_len h).2⟩
theorem fn_okD (hJ : ∀ ρ σ H, G.J ρ σ H) {x qual : Str} {st : Stmt} {f : Addr} {fd : FuncData} {N ps : List Str} {k : Nat} {b : Hh → Lo → S → RS} {dvs : List V} {kws : List (Str × V)} (F : FunD K x qual (defArgs st) (defBody st) (defScope st) dvs kws f fd) (sc : FnScope N ps (defScope st))
    (hb : ∀ (cdv : Value) (A : Around) (outer : List Env) (s : Shared) (H : Hp) (E : XK) (p : Hh), Cn (XOf P w K mg base N qual (defScope st) f cdv A outer s H E) (fun c d _ H' => E c d H') k →
      SB G p (fun c d _ H' => E c d H') (XOf P w K mg base N qual (defScope st) f cdv A outer s H E) (defBody st) (b p)) :
    FnG P w K mg base (k + 1) f fd ps (spI G (fnI ps.length N.length b)) := by
  obtain ⟨oc, od, dV, kV, doc, pm, an, cdv, ct, osl, rfl, lk, hcd, _, _⟩ := F.ex
  refine fnG_of lk hcd sc (fun vs H Q E h => ?_) fun A outer s H vs Q E hr hg h => ?_
  · obtain ⟨ρ, p, ws, rv, rp, h⟩ := h
    rw [← rv.len]; exact (fnI_len h).1
  obtain ⟨ρ, p, ws, rv, rp, h⟩ := h
  exact ⟨_, hb cdv A outer s H E p (cn_of sc.nd hr hg), ρ, _, _, start_rl rv (hJ _ _ _), rp, fnI_ok rp (fnI_len h).2⟩
end
end CC
set_option Elab.async false
set_option linter.all false
set_option maxRecDepth 100000
/-! CCUp: a call that is given only what its arguments speak of is sound -/
namespace CC
open PySem PySem.Spec PyProof.Rows L2

/-! ### up and down -/
mutual
theorem up_rn {keep : List Nat} {b : Nat} : ∀ {w w' : W}, rnW 0 keep w = some w' → upW keep b w' = w
  | .non, w', h => by simp only [rnW] at h; cases h; rfl
  | .bl x, w', h => by simp only [rnW] at h; cases h; rfl
  | .int i, w', h => by simp only [rnW] at h; cases h; rfl
  | .str z, w', h => by simp only [rnW] at h; cases h; rfl
  | .ref m, w', h => by
    simp only [rnW] at h
    rw [if_neg (Nat.not_lt_zero m)] at h
    cases q : ixOf (m - 0) keep 0 with
    | none => rw [q] at h; cases h
    | some j =>
      rw [q] at h
      cases h
      obtain ⟨_, h2⟩ := ixOf_get q
      simp only [upW, Nat.zero_add]
      rw [Nat.sub_zero, Nat.sub_zero] at h2
      rw [h2]
  | .tup ws, w', h => by
    simp only [rnW] at h
    cases q : rnWs 0 keep ws with
    | none => rw [q] at h; cases h
    | some ws' =>
      rw [q] at h
      cases h
      simp only [upW]
      rw [up_rns q]
theorem up_rns {keep : List Nat} {b : Nat} : ∀ {ws ws' : List W}, rnWs 0 keep ws = some ws' → upWs keep b ws' = ws
  | [], ws', h => by simp only [rnWs] at h; cases h; rfl
  | w :: ws, ws', h => by
    simp only [rnWs] at h
    cases q : rnW 0 keep w with
    | none => rw [q] at h; cases h
    | some w1 =>
      rw [q] at h
      cases q2 : rnWs 0 keep ws with
      | none => rw [q2] at h; cases h
      | some ws1 =>
        rw [q2] at h
        cases h
        simp only [upWs]
        rw [up_rn q, up_rns q2]
end
theorem upWs_len {keep : List Nat} {b : Nat} : ∀ {ws : List W}, (upWs keep b ws).length = ws.length
  | [] => rfl
  | w :: ws => by simp only [upWs, List.length_cons, upWs_len]
theorem zip_back {α β : Type} : ∀ {l : List (α × β)}, (l.map (·.1)).zip (l.map (·.2)) = l
  | [] => rfl
  | (a, b) :: r => by simp only [List.map_cons, List.zip_cons_cons, zip_back]
theorem up_rnOb {keep : List Nat} {b : Nat} {o o' : Ob} (h : rnOb 0 keep o = some o') : upOb keep b o' = o := by
  have pairs : ∀ {α : Type} {l : List (α × W)} {vs : List W}, rnWs 0 keep (l.map (·.2)) = some vs → (((l.map (·.1)).zip vs).map (·.1)).zip (upWs keep b (((l.map (·.1)).zip vs).map (·.2))) = l := fun {α l vs} q => by
    have l1 := rnWs_len q
    rw [List.length_map] at l1
    rw [List.map_fst_zip (by simp; omega), List.map_snd_zip (by simp; omega), up_rns q, zip_back]
  cases o with
  | lst ws =>
    simp only [rnOb] at h
    cases q : rnWs 0 keep ws with
    | none => rw [q] at h; cases h
    | some ws' => rw [q] at h; cases h; simp only [upOb]; rw [up_rns q]
  | frz ns => simp only [rnOb] at h; cases h; rfl
  | dct kvs =>
    simp only [rnOb] at h
    cases q : rnWs 0 keep (kvs.map (·.2)) with
    | none => rw [q] at h; cases h
    | some ws' => rw [q] at h; cases h; simp only [upOb]; rw [pairs q]
  | dtt kvs =>
    simp only [rnOb] at h
    cases q : rnWs 0 keep (kvs.map (·.2)) with
    | none => rw [q] at h; cases h
    | some ws' => rw [q] at h; cases h; simp only [upOb]; rw [pairs q]
  | ins c fs =>
    simp only [rnOb] at h
    cases q : rnWs 0 keep (fs.map (·.2)) with
    | none => rw [q] at h; cases h
    | some ws' => rw [q] at h; cases h; simp only [upOb]; rw [pairs q]
theorem upObs_get {keep : List Nat} {b : Nat} : ∀ {l : List Ob} {i : Nat}, (upObs keep b l)[i]? = l[i]?.map (upOb keep b)
  | [], i => by simp [upObs]
  | o :: r, 0 => by simp [upObs]
  | o :: r, i + 1 => by simp only [upObs, List.getElem?_cons_succ, upObs_get]
theorem upObs_len {keep : List Nat} {b : Nat} : ∀ {l : List Ob}, (upObs keep b l).length = l.length
  | [] => rfl
  | o :: r => by simp only [upObs, List.length_cons, upObs_len]
/-! ### the caller's cells -/
theorem nxt_setUp {p : Hh} {keep : List Nat} {b : Nat} {s : S} : ∀ {ov : List (Nat × Ob)}, nxt p (setUp p keep b ov s) = nxt p s
  | [] => rfl
  | (j, o) :: r => by
    simp only [setUp]
    split
    · rw [nxt_wr, nxt_setUp]
    · exact nxt_setUp
theorem rd_setUp {p : Hh} {keep : List Nat} {b : Nat} {s : S} {m : Nat} (nd : keep.Nodup) (lt : ∀ n ∈ keep, n < nxt p s) : ∀ {ov : List (Nat × Ob)},
    ((∀ j, keep[j]? = some m → lookN j ov = none) → rd p (setUp p keep b ov s) m = rd p s m) ∧ ∀ j o, keep[j]? = some m → lookN j ov = some o → rd p (setUp p keep b ov s) m = some (upOb keep b o)
  | [] => ⟨fun _ => rfl, fun j o _ h => nomatch h⟩
  | (j0, o0) :: r => by
    obtain ⟨i1, i2⟩ := rd_setUp nd lt (ov := r)
    simp only [setUp]
    cases q : keep[j0]? with
    | none =>
      refine ⟨fun h => i1 fun j hj => ?_, fun j o hj h => i2 j o hj ?_⟩
      · have := h j hj
        simp only [lookN] at this
        rw [if_neg (fun e => by rw [e, q] at hj; cases hj)] at this
        exact this
      · simp only [lookN] at h
        rw [if_neg (fun e => by rw [e, q] at hj; cases hj)] at h
        exact h
    | some n0 =>
      dsimp only
      have hn0 : n0 < nxt p (setUp p keep b r s) := by rw [nxt_setUp]; exact lt n0 (List.mem_of_getElem? q)
      rw [rd_wr hn0]
      by_cases e : m = n0
      · subst e
        rw [if_pos rfl]
        refine ⟨fun h => ?_, fun j o hj h => ?_⟩
        · have := h j0 q
          simp only [lookN, if_true] at this
          cases this
        · have ej : j = j0 := by
            obtain ⟨h1, e1⟩ := List.getElem?_eq_some_iff.mp hj
            obtain ⟨h2, e2⟩ := List.getElem?_eq_some_iff.mp q
            exact (List.getElem_inj nd).mp (e1.trans e2.symm)
          subst ej
          simp only [lookN, if_true] at h
          cases h
          rfl
      · rw [if_neg e]
        have nj : ∀ j, keep[j]? = some m → j ≠ j0 := fun j hj z => by
          rw [z, q] at hj
          exact e (Option.some.inj hj).symm
        refine ⟨fun h => i1 fun j hj => ?_, fun j o hj h => i2 j o hj ?_⟩
        · have := h j hj
          simp only [lookN] at this
          rw [if_neg (nj j hj)] at this
          exact this
        · simp only [lookN] at h
          rw [if_neg (nj j hj)] at h
          exact h
theorem rd_apps {p : Hh} {s : S} {l : List Ob} {m : Nat} : rd p ⟨s.ov, s.loc ++ l⟩ m = if m < nxt p s then rd p s m else l[m - nxt p s]? := by
  unfold rd nxt
  by_cases h : m < p.length
  · rw [if_pos h, if_pos h, if_pos (by omega)]
  · rw [if_neg h, if_neg h]
    by_cases h2 : m < p.length + s.loc.length
    · rw [if_pos h2, List.getElem?_append_left (by omega)]
    · rw [if_neg h2, List.getElem?_append_right (by omega)]
      have e : m - p.length - s.loc.length = m - (p.length + s.loc.length) := by omega
      rw [e]
theorem rd_lt {p : Hh} {s : S} {m : Nat} {o : Ob} (h : rd p s m = some o) : m < nxt p s := by
  unfold rd at h
  unfold nxt
  split at h
  · omega
  · have := (List.getElem?_eq_some_iff.mp h).1
    omega
theorem closeR_nd {p : Hh} {s : S} : ∀ {f : Nat} {todo keep : List Nat}, keep.Nodup → (∀ m ∈ keep, m < nxt p s) → (closeR p s f todo keep).Nodup ∧ ∀ m ∈ closeR p s f todo keep, m < nxt p s
  | 0, _, _, h, h2 => ⟨h, h2⟩
  | _ + 1, [], _, h, h2 => ⟨h, h2⟩
  | f + 1, m :: todo, keep, h, h2 => by
    simp only [closeR]
    split
    · exact closeR_nd h h2
    · rename_i hm
      cases e : rd p s m with
      | none => exact closeR_nd h h2
      | some o =>
        refine closeR_nd (List.nodup_append.mpr ⟨h, by simp, fun a ha b hb => ?_⟩) fun a ha => ?_
        · rw [List.mem_singleton.mp hb]
          exact fun e => hm (e ▸ ha)
        · rcases List.mem_append.mp ha with ha | ha
          · exact h2 a ha
          · rw [List.mem_singleton.mp ha]
            exact rd_lt e
theorem rnCells_get {p : Hh} {s : S} {keep : List Nat} : ∀ {ks : List Nat} {pc : Hh}, rnCells p s keep ks = some pc → pc.length = ks.length ∧ ∀ (j : Nat) (o' : Ob), pc[j]? = some o' → ∃ m o, ks[j]? = some m ∧ rd p s m = some o ∧ rnOb 0 keep o = some o'
  | [], pc, h => by simp only [rnCells] at h; cases h; exact ⟨rfl, fun j o' e => by simp at e⟩
  | m :: r, pc, h => by
    simp only [rnCells] at h
    cases q : rd p s m with
    | none => rw [q] at h; cases h
    | some o =>
      rw [q] at h
      dsimp only at h
      cases q2 : rnOb 0 keep o with
      | none => rw [q2] at h; cases h
      | some o' =>
        cases q3 : rnCells p s keep r with
        | none => rw [q2, q3] at h; cases h
        | some r' =>
          rw [q2, q3] at h
          cases h
          obtain ⟨h1, h2⟩ := rnCells_get q3
          refine ⟨by simp [h1], fun j u e => ?_⟩
          cases j with
          | zero => simp at e; subst e; exact ⟨m, o, rfl, q, q2⟩
          | succ j => exact h2 j u (by simpa using e)
section
variable {G : GE} {p : Hh} {ρ ρc l : List Addr} {H H' : Hp} {s s' : S} {keep : List Nat} {b : Nat}
mutual
theorem rv_up (rk : ∀ j m : Nat, keep[j]? = some m → ρc[j]? = ρ[m]?) (lk : ρc.length = keep.length) (lb : ρ.length = b) (nt : ∀ a vs, H' a = some (.tup vs) → a ∉ ρc → a ∉ ρ) : ∀ {w : W} {v : V}, RV G (ρc ++ l) H' w v → RV G (ρ ++ l) H' (upW keep b w) v
  | _, _, .non => .non
  | _, _, .bl b => .bl b
  | _, _, .int i => .int i
  | _, _, .str z => .str z
  | _, _, @RV.ref _ _ _ j a e => by
    simp only [upW]
    cases q : keep[j]? with
    | some m =>
      have hj : j < keep.length := (List.getElem?_eq_some_iff.mp q).1
      rw [List.getElem?_append_left (by omega), rk j m q] at e
      refine .ref ?_
      rw [List.getElem?_append_left (List.getElem?_eq_some_iff.mp e).1]
      exact e
    | none =>
      have hj : keep.length ≤ j := List.getElem?_eq_none_iff.mp q
      rw [List.getElem?_append_right (by omega), lk] at e
      refine .ref ?_
      rw [List.getElem?_append_right (by omega)]
      have e2 : b + (j - keep.length) - ρ.length = j - keep.length := by omega
      rw [e2]
      exact e
  | _, _, .tup na h r => .tup (fun m => by
      have n1 : _ ∉ ρc := fun z => na (List.mem_append_left _ z)
      rcases List.mem_append.mp m with m | m
      · exact nt _ _ h n1 m
      · exact na (List.mem_append_right _ m)) h (rvs_up rk lk lb nt r)
theorem rvs_up (rk : ∀ j m : Nat, keep[j]? = some m → ρc[j]? = ρ[m]?) (lk : ρc.length = keep.length) (lb : ρ.length = b) (nt : ∀ a vs, H' a = some (.tup vs) → a ∉ ρc → a ∉ ρ) : ∀ {ws : List W} {vs : List V}, RVs G (ρc ++ l) H' ws vs → RVs G (ρ ++ l) H' (upWs keep b ws) vs
  | _, _, .nil => .nil
  | _, _, .cons h r => .cons (rv_up rk lk lb nt h) (rvs_up rk lk lb nt r)
end
theorem ro_up (rk : ∀ j m : Nat, keep[j]? = some m → ρc[j]? = ρ[m]?) (lk : ρc.length = keep.length) (lb : ρ.length = b) (nt : ∀ a vs, H' a = some (.tup vs) → a ∉ ρc → a ∉ ρ) {o : Ob} {u : HO} (r : RO G (ρc ++ l) H' o u) : RO G (ρ ++ l) H' (upOb keep b o) u := by
  cases r with
  | lst r => exact .lst (rvs_up rk lk lb nt r)
  | frz => exact .frz
  | @dK kvs ks r r2 =>
    have r3 := rvs_up rk lk lb nt r2
    have e := upWs_len (keep := keep) (b := b) (ws := kvs.map (·.2))
    refine .dK ?_ ?_
    · rw [List.map_fst_zip (by simp [e])]; exact r
    · rw [List.map_snd_zip (by simp [e])]; exact r3
  | @dT kvs ks r r2 =>
    have r3 := rvs_up rk lk lb nt r2
    have e := upWs_len (keep := keep) (b := b) (ws := kvs.map (·.2))
    refine .dT ?_ ?_
    · rw [List.map_fst_zip (by simp [e])]; exact r
    · rw [List.map_snd_zip (by simp [e])]; exact r3
  | @ins c fs gs dx k r =>
    have r3 := rvs_up rk lk lb nt r
    have e := upWs_len (keep := keep) (b := b) (ws := fs.map (·.2))
    refine .ins ?_ ?_
    · rw [← k]
      have e2 : ((fs.map (·.1)).zip (upWs keep b (fs.map (·.2)))).map (fun q => (G.fld c)[q.1]?) = (((fs.map (·.1)).zip (upWs keep b (fs.map (·.2)))).map (·.1)).map (fun i => (G.fld c)[i]?) := by rw [List.map_map]; rfl
      rw [e2, List.map_fst_zip (by simp [e]), List.map_map]
      rfl
    · rw [List.map_snd_zip (by simp [e])]; exact r3
theorem ro_not {o : Ob} {u : HO} (r : RO G ρ H o u) : (∀ vs, u ≠ .tup vs) ∧ ∀ fs, u ≠ .xd fs := by
  cases r <;> exact ⟨(fun _ z => nomatch z), (fun _ z => nomatch z)⟩
/-- behind the callee -/
theorem after_up (rp : Rep G ρ p s H) (nd : keep.Nodup) (lt : ∀ m ∈ keep, m < nxt p s) {pc : Hh} (hpc : rnCells p s keep keep = some pc) (rk : ∀ j m : Nat, keep[j]? = some m → ρc[j]? = ρ[m]?) (lk : ρc.length = keep.length) (x : Ex ρc H (ρc ++ l) H') (rp' : Rep G (ρc ++ l) pc s' H') :
    Ex ρ H (ρ ++ l) H' ∧ Rep G (ρ ++ l) p (upS p keep s s') H' ∧ (∀ w v, RV G (ρc ++ l) H' w v → RV G (ρ ++ l) H' (upW keep (nxt p s) w) v) ∧ ∀ a fs, H' a = some (.xd fs) → a ∉ ρc ++ l → a ∉ ρ ++ l := by
  have lb := rp.len
  obtain ⟨pl, pg⟩ := rnCells_get hpc
  have sub : ∀ a, a ∈ ρc → a ∈ ρ := fun a ha => by
    obtain ⟨j, hj, e⟩ := List.getElem_of_mem ha
    have hk : keep[j]? = some keep[j] := List.getElem?_eq_getElem (by omega)
    have := rk j _ hk
    rw [List.getElem?_eq_getElem hj, e] at this
    exact List.mem_of_getElem? this.symm
  have cell : ∀ a, a ∈ ρ → a ∉ ρc → ∃ n o u, ρ[n]? = some a ∧ rd p s n = some o ∧ H a = some u ∧ RO G ρ H o u ∧ H' a = some u := fun a ha na => by
    obtain ⟨n, h1, e⟩ := List.getElem_of_mem ha
    have e' : ρ[n]? = some a := by rw [List.getElem?_eq_getElem h1, e]
    cases h : rd p s n with
    | none => exact absurd h (rd_full n (by rw [← lb]; exact h1))
    | some o =>
      obtain ⟨u, e3, r⟩ := rp.at h e'
      exact ⟨n, o, u, e', h, e3, r, x.keep a u na e3⟩
  have nt : ∀ a vs, H' a = some (.tup vs) → a ∉ ρc → a ∉ ρ := fun a vs e na ha => by
    obtain ⟨n, o, u, _, _, _, r, e2⟩ := cell a ha na
    rw [e] at e2
    exact (ro_not r).1 vs (Option.some.inj e2).symm
  have lnew : ∀ a, a ∈ l → H a = none := fun a ha => x.new a (List.mem_append_right _ ha) (fun z => by
    have := List.nodup_append.mp rp'.nd
    exact this.2.2 a z a ha rfl)
  have lno : ∀ a, a ∈ l → a ∉ ρ := fun a ha => rp.ref_none (lnew a ha)
  have x2 : Ex ρ H (ρ ++ l) H' := ⟨⟨l, rfl⟩, fun a h n => by
    rcases List.mem_append.mp h with h | h
    · exact absurd h n
    · exact lnew a h, fun a o n h => x.keep a o (fun z => n (sub a z)) h⟩
  have lenL : l.length = s'.loc.length := by
    have h := rp'.len
    unfold nxt at h
    rw [List.length_append, lk] at h
    omega
  refine ⟨x2, ⟨?_, ?_, fun n o h => ?_⟩, fun w v r => rv_up rk lk lb nt r, fun a fs e na m => ?_⟩
  · have e1 := nxt_setUp (p := p) (keep := keep) (b := nxt p s) (s := s) (ov := s'.ov)
    unfold upS nxt at *
    rw [List.length_append, lb]
    simp [upObs_len]
    omega
  · exact List.nodup_append.mpr ⟨rp.nd, (List.nodup_append.mp rp'.nd).2.1, fun a ha c hc e => lno c hc (e ▸ ha)⟩
  · unfold upS at h
    rw [rd_apps, nxt_setUp] at h
    by_cases hn : n < nxt p s
    · rw [if_pos hn] at h
      obtain ⟨r1, r2⟩ := rd_setUp (m := n) (b := nxt p s) nd lt (ov := s'.ov)
      by_cases hk : ∃ j o', keep[j]? = some n ∧ lookN j s'.ov = some o'
      · obtain ⟨j, o', hj, ho⟩ := hk
        rw [r2 j o' hj ho] at h
        cases h
        have hjl : j < pc.length := by rw [pl]; exact (List.getElem?_eq_some_iff.mp hj).1
        have rdj : rd pc s' j = some o' := by unfold rd; rw [if_pos hjl, ho]
        obtain ⟨a, u, e1, e2, r⟩ := rp'.has j o' rdj
        rw [List.getElem?_append_left (by omega), rk j n hj] at e1
        exact ⟨a, u, x2.get e1, e2, ro_up rk lk lb nt r⟩
      · rw [r1 (fun j hj => by
          cases q : lookN j s'.ov with
          | none => rfl
          | some o' => exact absurd ⟨j, o', hj, q⟩ hk)] at h
        obtain ⟨a, u, e1, e2, r⟩ := rp.has n o h
        by_cases ha : a ∈ ρc
        · obtain ⟨j, hj, e⟩ := List.getElem_of_mem ha
          have ek : keep[j]? = some keep[j] := List.getElem?_eq_getElem (by omega)
          have e3 := rk j _ ek
          rw [List.getElem?_eq_getElem hj, e] at e3
          have en : keep[j] = n := nodup_get rp.nd e3.symm e1
          rw [en] at ek
          have hjl : j < pc.length := by rw [pl]; omega
          have hov : lookN j s'.ov = none := by
            cases q : lookN j s'.ov with
            | none => rfl
            | some o' => exact absurd ⟨j, o', ek, q⟩ hk
          have hpj : pc[j]? = some pc[j] := List.getElem?_eq_getElem hjl
          have rdj : rd pc s' j = some pc[j] := by unfold rd; rw [if_pos hjl, hov]; exact hpj
          obtain ⟨m, o2, f1, f2, f3⟩ := pg j _ hpj
          rw [ek] at f1
          cases f1
          rw [h] at f2
          cases f2
          obtain ⟨a', u', g1, g2, g3⟩ := rp'.has j _ rdj
          rw [List.getElem?_append_left (by omega), rk j n ek, e1] at g1
          cases g1
          refine ⟨a, u', x2.get e1, g2, ?_⟩
          have := ro_up rk lk lb nt g3
          rw [up_rnOb f3] at this
          exact this
        · exact ⟨a, u, x2.get e1, x.keep a u ha e2, r.mono x2⟩
    · rw [if_neg hn, upObs_get] at h
      cases q : s'.loc[n - nxt p s]? with
      | none => rw [q] at h; cases h
      | some o' =>
        rw [q] at h
        cases h
        have rdj : rd pc s' (keep.length + (n - nxt p s)) = some o' := by
          unfold rd
          rw [if_neg (by omega)]
          have e2 : keep.length + (n - nxt p s) - pc.length = n - nxt p s := by omega
          rw [e2]; exact q
        obtain ⟨a, u, e1, e2, r⟩ := rp'.has _ o' rdj
        rw [List.getElem?_append_right (by omega), lk] at e1
        refine ⟨a, u, ?_, e2, ro_up rk lk lb nt r⟩
        rw [List.getElem?_append_right (by omega)]
        have e3 : n - ρ.length = keep.length + (n - nxt p s) - keep.length := by omega
        rw [e3]; exact e1
  · rcases List.mem_append.mp m with m | m
    · obtain ⟨n, o, u, _, _, _, r, e2⟩ := cell a m (fun z => na (List.mem_append_left _ z))
      rw [e] at e2
      exact (ro_not r).2 fs (Option.some.inj e2).symm
    · exact na (List.mem_append_right _ m)
theorem cells_down (rp : Rep G ρ p s H) (nd : keep.Nodup) (lt : ∀ m ∈ keep, m < nxt p s) {pc : Hh} (q2 : rnCells p s keep keep = some pc) (rk : ∀ j m : Nat, keep[j]? = some m → ρc[j]? = ρ[m]?) (lk : ρc.length = keep.length) : (∀ a, a ∈ ρc → a ∈ ρ) ∧ ρc.Nodup ∧ Rep G ρc pc ⟨[], []⟩ H := by
  obtain ⟨pl, pg⟩ := rnCells_get q2
  have sub : ∀ a, a ∈ ρc → a ∈ ρ := fun a ha => by
    obtain ⟨j, hj, e⟩ := List.getElem_of_mem ha
    have hk : keep[j]? = some keep[j] := List.getElem?_eq_getElem (by omega)
    have := rk j _ hk
    rw [List.getElem?_eq_getElem hj, e] at this
    exact List.mem_of_getElem? this.symm
  have ndc : ρc.Nodup := by
    refine List.pairwise_iff_getElem.mpr fun i j hi' hj hij e0 => ?_
    have e : ρc[i]? = ρc[j]? := by rw [List.getElem?_eq_getElem hi', List.getElem?_eq_getElem hj, e0]
    have hki : keep[i]? = some keep[i] := List.getElem?_eq_getElem (by omega)
    have hkj : keep[j]? = some keep[j] := List.getElem?_eq_getElem (by omega)
    have e1 := rk i _ hki
    have e2 := rk j _ hkj
    rw [e, e2] at e1
    have hm : keep[j] < ρ.length := by rw [rp.len]; exact lt _ (List.mem_of_getElem? hkj)
    rw [List.getElem?_eq_getElem hm] at e1
    have e3 : keep[j] = keep[i] := nodup_get rp.nd (List.getElem?_eq_getElem hm) e1.symm
    have := (List.getElem_inj nd).mp e3
    omega
  have hi : ∀ (j m : Nat) (a : Addr), keep[j]? = some m → ρ[0 + m]? = some a → ρc[0 + j]? = some a := fun j m a e e2 => by
    rw [Nat.zero_add] at e2 ⊢
    rw [rk j m e]; exact e2
  have lo : ∀ (m : Nat) (a : Addr), m < 0 → ρ[m]? = some a → ρc[m]? = some a := fun m a z => absurd z (Nat.not_lt_zero m)
  exact ⟨sub, ndc, by unfold nxt; simp; omega, ndc, fun j o' e => by
    unfold rd at e
    by_cases hj : j < pc.length
    · rw [if_pos hj] at e
      simp only [lookN] at e
      obtain ⟨m, o, f1, f2, f3⟩ := pg j o' e
      obtain ⟨a, u, g1, g2, g3⟩ := rp.has m o f2
      exact ⟨a, u, by rw [rk j m f1]; exact g1, g2, rno_ok sub lo hi f3 g3⟩
    · rw [if_neg hj] at e
      simp at e⟩
theorem callF_ok {F : Hh → List W → R W} {xs : List W} {vs : List V} {Q : VK} {E : XK} (rv : RVs G ρ H xs vs) (rp : Rep G ρ p s H) (h : PoV G p ρ H (callF F p xs s) Q E) : ∃ ρc pc ws, RVs G ρc H ws vs ∧ Rep G ρc pc ⟨[], []⟩ H ∧ PoV G pc ρc H (F pc ws) Q E := by
  unfold callF at h
  have key : ∀ keep : List Nat, keep.Nodup → (∀ m ∈ keep, m < nxt p s) → PoV G p ρ H (callK F p xs s keep) Q E → ∃ ρc pc ws, RVs G ρc H ws vs ∧ Rep G ρc pc ⟨[], []⟩ H ∧ PoV G pc ρc H (F pc ws) Q E := fun keep nd lt h => by
    unfold callK at h
    cases q1 : rnWs 0 keep xs with
    | none => rw [q1] at h; exact h.elim
    | some ys =>
      cases q2 : rnCells p s keep keep with
      | none => rw [q1, q2] at h; exact h.elim
      | some pc =>
        rw [q1, q2] at h
        dsimp only at h
        obtain ⟨pl, pg⟩ := rnCells_get q2
        have rk : ∀ j m : Nat, keep[j]? = some m → (keep.map fun m => ρ.getD m 0)[j]? = ρ[m]? := fun j m e => by
          rw [List.getElem?_map, e]
          have hm : m < ρ.length := by rw [rp.len]; exact lt m (List.mem_of_getElem? e)
          simp [List.getD, List.getElem?_eq_getElem hm]
        have lk : (keep.map fun m => ρ.getD m 0).length = keep.length := List.length_map ..
        generalize (keep.map fun m => ρ.getD m 0) = ρc at rk lk
        obtain ⟨sub, ndc, rpc⟩ := cells_down rp nd lt q2 rk lk
        have hi : ∀ (j m : Nat) (a : Addr), keep[j]? = some m → ρ[0 + m]? = some a → ρc[0 + j]? = some a := fun j m a e e2 => by
          rw [Nat.zero_add] at e2 ⊢
          rw [rk j m e]; exact e2
        have lo : ∀ (m : Nat) (a : Addr), m < 0 → ρ[m]? = some a → ρc[m]? = some a := fun m a z => absurd z (Nat.not_lt_zero m)
        have rv2 := rns_ok sub lo hi q1 rv
        refine ⟨ρc, pc, ys, rv2, rpc, ?_⟩
        cases q3 : F pc ys with
        | bad => rw [q3] at h; exact h
        | ok w s' =>
          rw [q3] at h
          intro ρ' H' v x rp' rv'
          obtain ⟨l, rfl⟩ := x.pre
          obtain ⟨a1, a2, a3, _⟩ := after_up rp nd lt q2 rk lk x rp'
          exact h _ _ _ a1 a2 (a3 w v rv')
        | exc c w s' =>
          rw [q3] at h
          intro ρ' H' d x rp' rx
          obtain ⟨l, rfl⟩ := x.pre
          obtain ⟨a1, a2, a3, a4⟩ := after_up rp nd lt q2 rk lk x rp'
          refine h _ _ _ a1 a2 ?_
          unfold RX at rx ⊢
          split
          · trivial
          · rename_i f hf
            rw [hf] at rx
            obtain ⟨dd, v, e1, n, e2, q⟩ := rx
            exact ⟨dd, v, e1, a4 _ _ e2 n, e2, a3 w v q⟩
  refine key _ ?_ ?_ h
  · split
    · exact List.nodup_nil
    · exact (closeR_nd List.nodup_nil (fun m hm => by cases hm)).1
  · split
    · exact fun m hm => by cases hm
    · exact (closeR_nd List.nodup_nil (fun m hm => by cases hm)).2
end
end CC
set_option Elab.async false
set_option linter.all false
set_option maxRecDepth 100000
/-! CCCall2: calls -/
namespace CC
open PySem PySem.Spec PyProof.Rows L2

/-! ### rules -/
section
variable {G : GE} {p : Hh} {E : WX} {X : Cx} {k np : Nat} {pos p' apos : Pos} {a o : Expr} {es : List Expr} {mo : Lo → S → R W} {mr : Lo → S → R (List W)} {Fm : Hh → List W → R W} {f C : Addr} {fd : FuncData} {ps : List Str} {x : Str} {dvs : List V} {dws : List W} {ds : List Value}
/-- a def of the text as it may be called: the last ones of its parameters by their defaults dws -/
structure FC (G : GE) (P : Program) (w : World) (K : PySem.W.Frag) (mg : Str → Option Value) (base : Heap) (k : Nat) (f : Addr) (Fm : Hh → List W → R W) (dws : List W) : Prop where
  ex : ∃ (fd : FuncData) (ps : List Str) (dvs : List V) (ds : List Value), FnG P w K mg base k f fd ps (spI G Fm) ∧ Binds K fd ps ds ∧ Vals dvs ds ∧ (∀ ρ H, RVs G ρ H dws dvs)
  kp : PySem.W.keepIn K (.ref f) = true
/-- the callee's wish -/
theorem sp_of {ρ : List Addr} {H : Hp} {s : S} {xs : List W} {vs : List V} {Q : VK} {E : XK} (rv : RVs G ρ H xs vs) (rp : Rep G ρ p s H) (h : PoV G p ρ H (callF Fm p xs s) Q E) : spI G Fm vs H Q E := callF_ok rv rp h
theorem se_call (FF : FC G X.prog X.w X.K X.mg X.base k f Fm dws) (cn : Cn X E k) (hm : X.mg x = some (.ref f)) (ha : SA G p E X (a :: es) mr) (hg : Gl X x := by rfl) (hdb : (x == ("__debug__" : Str)) = false := by decide)
    (he : starEach (a :: es) X.env = (false, eval a X.env) :: starEach es X.env := by rfl) (hpl : (backTo pos (starEach es X.env)).any (·.1) = false := by rfl) : SE G p E X (.Call (.Name x p') (a :: es) [] pos) (eCall Fm p dws mr) := by
  obtain ⟨fd, ps, dvs, ds, F, hb, hd, rd⟩ := FF.ex
  exact PE_imp (pe_callG (E := WE E) F cn.room cn.gd hg hm FF.kp hb hd (fun σ => passAt cn.tk σ) ha hdb he hpl) fun σ H Q ⟨ρ, l, s, rl, rp, h⟩ =>
    ⟨ρ, l, s, rl, rp, PoA.bind h fun xs s1 ρ1 H1 vs x1 rp1 rv1 h1 => sp_of (rv1.app (rd ρ1 H1)) rp1 h1⟩
theorem se_call0 (FF : FC G X.prog X.w X.K X.mg X.base k f Fm dws) (cn : Cn X E k) (hm : X.mg x = some (.ref f)) (hg : Gl X x := by rfl) (hdb : (x == ("__debug__" : Str)) = false := by decide) : SE G p E X (.Call (.Name x p') [] [] pos) (eCall Fm p dws aNil) := by
  obtain ⟨fd, ps, dvs, ds, F, hb, hd, rd⟩ := FF.ex
  refine ⟨fun pins s σ H Q I ⟨ρ, l, s0, rl, rp, h⟩ => ?_⟩
  refine wpAny_Call_Name_kw (ld_glob I hg hm ?_ hdb)
  exact PySem.W.callWith_K0 I.kIn FF.kp (run_fnG (us := []) (vs := []) (dvs := dvs) (E := WE E) F cn.room cn.gd hb hd (passAt cn.tk σ) I .nil (sp_of (rd ρ H) rp h))
/-- what a class of objects must have -/
structure CC_ (G : GE) (K : PySem.W.Frag) (c : Nat) : Prop where
  cl : Cls K (G.cls c)
  no : ∀ f ∈ G.fld c, NoAttr K (G.cls c) f
theorem zip_lookup_none {l : List Str} {vs : List V} {m : Str} (h : m ∉ l) : (l.zip vs).lookup m = none := by
  induction l generalizing vs with
  | nil => rfl
  | cons a r ih =>
    cases vs with
    | nil => rfl
    | cons v vs =>
      have ne : (m == a) = false := by simpa using fun e => h (by rw [e]; exact List.mem_cons_self ..)
      simp only [List.zip_cons_cons, List.lookup, ne]
      exact ih fun z => h (List.mem_cons_of_mem _ z)
theorem keys_lookup_none {gs : List (Str × V)} {m : Str} (h : m ∉ gs.map (·.1)) : gs.lookup m = none := by
  induction gs with
  | nil => rfl
  | cons a r ih =>
    obtain ⟨a, v⟩ := a
    have ne : (m == a) = false := by simpa using fun e => h (by rw [e]; exact List.mem_cons_self ..)
    simp only [List.lookup, ne]
    exact ih fun z => h (List.mem_cons_of_mem _ z)
/-- an object of the class c, as the layer has it -/
theorem obj_at {ρ : List Addr} {H : Hp} {s : S} {c : Nat} {w : W} {v : V} (rp : Rep G ρ p s H) (rv : RV G ρ H w v) (h : isC p s c w = true) : ∃ a dx gs, v = .ref a ∧ H a = some (.ins (G.cls c) dx gs) ∧ ∀ m, m ∉ G.fld c → gs.lookup m = none := by
  cases rv with
  | @ref n a e =>
    simp only [isC] at h
    cases q : rd p s n with
    | none => rw [q] at h; cases h
    | some o =>
      rw [q] at h
      obtain ⟨u, hu, ro⟩ := rp.at q e
      cases ro with
      | @ins d fs gs dx k r =>
        have e : d = c := by simpa using h
        subst e
        refine ⟨a, dx, gs, rfl, hu, fun m hm => keys_lookup_none fun z => hm ?_⟩
        obtain ⟨q, hq, e2⟩ := List.mem_map.mp z
        have : some m ∈ gs.map (fun p => some p.1) := List.mem_map.mpr ⟨q, hq, by rw [e2]⟩
        rw [← k] at this
        obtain ⟨i, _, e3⟩ := List.mem_map.mp this
        exact List.mem_of_getElem? e3
      | _ => cases h
  | _ => cases h
theorem se_meth {c : Nat} {m : Str} {pl : Sem Bool} (T : CC_ G X.K c) (hm : Meth X.K (G.cls c) m f) (hmf : m ∉ G.fld c) (FF : FC G X.prog X.w X.K X.mg X.base k f Fm dws) (cn : Cn X E k) (ho : SE G p E X o mo) (ha : SA G p E X (a :: es) mr)
    (hst : starEach (a :: es) X.env = (false, eval a X.env) :: starEach es X.env := by rfl) (hpl : (backTo pos (starEach es X.env)).any (·.1) = false := by rfl)
    (ht : eval (.Call (.Attribute o m apos) (a :: es) [] pos) X.env = (do
      let ov ← eval o X.env
      standAt apos.atName
      let (f, first) ← holding [ov] (getMethod ov m pl)
      callWith pos f first (backTo pos (starEach (a :: es) X.env)) (backToKw pos (keywordEach [] X.env))) := by rfl) : SE G p E X (.Call (.Attribute o m apos) (a :: es) [] pos) (eMeth c Fm p dws mo mr) := by
  obtain ⟨fd, ps, dvs, ds, F, hb, hd, rdf⟩ := FF.ex
  refine ⟨fun pins s σ H Q I ⟨ρ, l, s0, rl, rp, h⟩ => ?_⟩
  unfold eMeth at h
  have h2 := PoA.bind (rel := RV G) (Q := fun v H1 => ∃ ρ1 s1 w, RL G ρ1 H1 l σ ∧ Rep G ρ1 p s1 H1 ∧ RV G ρ1 H1 w v ∧ PoV G p ρ1 H1 (match isC p s1 c w with
    | true => (mr l s1).bind fun xs s2 => callF Fm p (w :: (xs ++ dws)) s2
    | false => .bad) Q (fun c d H' => E c d σ H')) h fun w s1 ρ1 H1 v x1 rp1 rv1 h1 => ⟨ρ1, s1, w, rl.mono x1, rp1, rv1, h1⟩
  refine PySem.W.methodCall_KW (pl := pl) (thn (ho.run pins s σ H _ I ⟨ρ, l, s0, rl, rp, h2⟩) fun u s1 ⟨v, H1, I1, ru, ρ1, s2, w, rl1, rp1, rv1, h3⟩ => ?_) ht
  cases q : isC p s2 c w with
  | false => rw [q] at h3; exact h3.elim
  | true =>
    rw [q] at h3
    obtain ⟨a', dx, gs, ev, ea, hl⟩ := obj_at rp1 rv1 q
    subst ev
    obtain rfl : u = Value.ref a' := ru
    refine getmeth_ok I1 ea T.cl hm (hl m hmf) ?_
    have h4 := PoA.bind (rel := RVs G) (Q := fun vs H2 => spI G Fm (.ref a' :: (vs ++ dvs)) H2 Q (WE E σ)) h3 fun xs s3 ρ2 H2 vs x2 rp2 rv2 h5 => sp_of (.cons (rv1.mono x2) (rv2.app (rdf ρ2 H2))) rp2 h5
    refine PySem.W.callWith_K (first := [.ref a']) (h₀ := X.base) I1.ok.mod.kin hm.kp (thn (ha.run pos pins s1 σ H1 _ I1 ⟨ρ1, l, s2, rl1, rp1, h4⟩) fun us s3 ⟨vs, H2, I2, r, q2⟩ => ⟨I2.kIn, ?_⟩) hst hpl
    exact run_fnG (us := .ref a' :: us) (vs := .ref a' :: vs) (E := WE E) F cn.room cn.gd hb hd (passAt cn.tk σ) I2 (.cons rfl r) q2
theorem se_meth0 {c : Nat} {m : Str} {pl : Sem Bool} (T : CC_ G X.K c) (hm : Meth X.K (G.cls c) m f) (hmf : m ∉ G.fld c) (FF : FC G X.prog X.w X.K X.mg X.base k f Fm dws) (cn : Cn X E k) (ho : SE G p E X o mo)
    (ht : eval (.Call (.Attribute o m apos) [] [] pos) X.env = (do
      let ov ← eval o X.env
      standAt apos.atName
      let (f, first) ← holding [ov] (getMethod ov m pl)
      callWith pos f first (backTo pos (starEach [] X.env)) (backToKw pos (keywordEach [] X.env))) := by rfl) : SE G p E X (.Call (.Attribute o m apos) [] [] pos) (eMeth c Fm p dws mo aNil) := by
  obtain ⟨fd, ps, dvs, ds, F, hb, hd, rdf⟩ := FF.ex
  refine ⟨fun pins s σ H Q I ⟨ρ, l, s0, rl, rp, h⟩ => ?_⟩
  unfold eMeth at h
  have h2 := PoA.bind (rel := RV G) (Q := fun v H1 => ∃ ρ1 s1 w, RL G ρ1 H1 l σ ∧ Rep G ρ1 p s1 H1 ∧ RV G ρ1 H1 w v ∧ PoV G p ρ1 H1 (match isC p s1 c w with
    | true => (aNil l s1).bind fun xs s2 => callF Fm p (w :: (xs ++ dws)) s2
    | false => .bad) Q (fun c d H' => E c d σ H')) h fun w s1 ρ1 H1 v x1 rp1 rv1 h1 => ⟨ρ1, s1, w, rl.mono x1, rp1, rv1, h1⟩
  refine PySem.W.methodCall_KW (pl := pl) (thn (ho.run pins s σ H _ I ⟨ρ, l, s0, rl, rp, h2⟩) fun u s1 ⟨v, H1, I1, ru, ρ1, s2, w, rl1, rp1, rv1, h3⟩ => ?_) ht
  cases q : isC p s2 c w with
  | false => rw [q] at h3; exact h3.elim
  | true =>
    rw [q] at h3
    obtain ⟨a', dx, gs, ev, ea, hl⟩ := obj_at rp1 rv1 q
    subst ev
    obtain rfl : u = Value.ref a' := ru
    refine getmeth_ok I1 ea T.cl hm (hl m hmf) ?_
    exact PySem.W.callWith_K0 (first := [.ref a']) I1.kIn hm.kp (run_fnG (us := [.ref a']) (vs := [.ref a']) (dvs := dvs) (E := WE E) F cn.room cn.gd hb hd (passAt cn.tk σ) I1 (.cons rfl .nil) (sp_of (.cons rv1 (rdf ρ1 H1)) rp1 h3))
end
end CC
set_option Elab.async false
set_option linter.all false
set_option maxRecDepth 100000
/-! CCObj: making objects, attributes -/
namespace CC
open PySem PySem.Spec PyProof.Rows L2

/-! ### attributes -/
def lookF (i : Nat) : List (Nat × W) → Option W
  | [] => none
  | (j, w) :: r => if i = j then some w else lookF i r
def putW (i : Nat) (w : W) : List (Nat × W) → List (Nat × W)
  | [] => [(i, w)]
  | (j, u) :: r => if j = i then (j, w) :: r else (j, u) :: putW i w r
/-- e.f, f the i-th field of the class c -/
def eFld (c i : Nat) (p : Hh) (mo : Lo → S → R W) : Lo → S → R W := fun l s => (mo l s).bind fun o s1 => match o with
  | .ref n => (match rd p s1 n with
    | some (.ins d fs) => if d = c then (match lookF i fs with | some w => .ok w s1 | none => .bad) else .bad
    | _ => .bad)
  | _ => .bad
/-- e.f = v -/
def sFldA (c i : Nat) (p : Hh) (mo me : Lo → S → R W) : Lo → S → RS := fun l s => (me l s).toS l fun w s1 => (mo l s1).toS l fun o s2 => match o with
  | .ref n => (match rd p s2 n with
    | some (.ins d fs) => if d = c ∧ fs.length < 900 then .nx l (wr p s2 n (.ins c (putW i w fs))) else .bad
    | _ => .bad)
  | _ => .bad
section
variable {G : GE} {p : Hh} {E : WX} {X : Cx} {k : Nat} {pos p' apos pos' : Pos} {a o : Expr} {es : List Expr} {mo ma : Lo → S → R W} {mr : Lo → S → R (List W)} {Fm : Hh → List W → R W} {f C : Addr} {x : Str} {dws : List W} {ρ : List Addr} {H : Hp} {s : S}
theorem zip_lookup {l : List Str} {vs : List V} {i : Nat} {f : Str} {v : V} (nd : l.Nodup) (hi : l[i]? = some f) (hv : vs[i]? = some v) : (l.zip vs).lookup f = some v := by
  induction l generalizing vs i with
  | nil => simp at hi
  | cons a r ih =>
    cases vs with
    | nil => simp at hv
    | cons u vs =>
      cases i with
      | zero =>
        simp at hi hv
        subst hi hv
        simp [List.lookup]
      | succ i =>
        have hi' : r[i]? = some f := by simpa using hi
        have nr : a ∉ r := (List.nodup_cons.mp nd).1
        have ne' : f ≠ a := fun e => nr (by rw [← e]; exact List.mem_of_getElem? hi')
        have ne : (f == a) = false := by simpa using ne'
        simp only [List.zip_cons_cons, List.lookup, ne]
        exact ih (List.nodup_cons.mp nd).2 hi' (by simpa using hv)
/-- the fields of a cell, by name -/
theorem fields_lookup {nm : List Str} (nd : nm.Nodup) {i : Nat} {f : Str} (hi : nm[i]? = some f) : ∀ {fs : List (Nat × W)} {gs : List (Str × V)} {w : W}, fs.map (fun q => nm[q.1]?) = gs.map (fun q => some q.1) → RVs G ρ H (fs.map (·.2)) (gs.map (·.2)) → lookF i fs = some w → ∃ v, gs.lookup f = some v ∧ RV G ρ H w v
  | [], _, _, _, _, h => by cases h
  | (j, u) :: fs, [], _, k, _, _ => by simp at k
  | (j, u) :: fs, (g, y) :: gs, w, k, r, h => by
    simp only [List.map_cons, List.cons.injEq] at k
    obtain ⟨k1, k2⟩ := k
    cases r with
    | cons r1 r2 =>
      simp only [lookF] at h
      by_cases e : i = j
      · rw [if_pos e] at h
        cases h
        subst e
        rw [hi] at k1
        cases k1
        exact ⟨y, by simp [List.lookup], r1⟩
      · rw [if_neg e] at h
        obtain ⟨v, h1, h2⟩ := fields_lookup nd hi k2 r2 h
        refine ⟨v, ?_, h2⟩
        have ne : (f == g) = false := by
          have : f ≠ g := fun z => by
            subst z
            exact e (nodup_ix nd hi k1)
          simpa using this
        simp only [List.lookup, ne]
        exact h1
theorem fields_put {nm : List Str} (nd : nm.Nodup) {i : Nat} {f : Str} (hi : nm[i]? = some f) {w : W} {v : V} (rw' : RV G ρ H w v) : ∀ {fs : List (Nat × W)} {gs : List (Str × V)}, fs.map (fun q => nm[q.1]?) = gs.map (fun q => some q.1) → RVs G ρ H (fs.map (·.2)) (gs.map (·.2)) →
    (putW i w fs).map (fun q => nm[q.1]?) = (putF f v gs).map (fun q => some q.1) ∧ RVs G ρ H ((putW i w fs).map (·.2)) ((putF f v gs).map (·.2))
  | [], [], _, _ => by
    unfold putW putF
    simp only [List.map_cons, List.map_nil, hi]
    exact ⟨trivial, .cons rw' .nil⟩
  | [], _ :: _, k, _ => by simp at k
  | (j, u) :: fs, [], k, _ => by simp at k
  | (j, u) :: fs, (g, y) :: gs, k, r => by
    simp only [List.map_cons, List.cons.injEq] at k
    obtain ⟨k1, k2⟩ := k
    cases r with
    | cons r1 r2 =>
      unfold putW putF
      by_cases e : j = i
      · subst e
        rw [hi] at k1
        cases k1
        simp only [if_true, List.map_cons, hi, k2]
        exact ⟨trivial, .cons rw' r2⟩
      · have ne : ¬ g = f := fun z => by
          subst z
          exact e (nodup_ix nd k1 hi)
        rw [if_neg e, if_neg ne]
        obtain ⟨h1, h2⟩ := fields_put nd hi rw' k2 r2
        simp only [List.map_cons, k1, h1]
        exact ⟨trivial, .cons r1 h2⟩
theorem se_fld {c i : Nat} {f : Str} (T : CC_ G X.K c) (nd : (G.fld c).Nodup) (hi : (G.fld c)[i]? = some f) (ho : SE G p E X o mo) (hb : attributeBase o f X.env (eval o X.env) = eval o X.env := by rfl) : SE G p E X (.Attribute o f pos) (eFld c i p mo) :=
  PE_imp (pe_fld ho hb) fun σ H Q ⟨ρ, l, s, rl, rp, h⟩ => by
    unfold eFld at h
    refine ⟨ρ, l, s, rl, rp, PoA.bind h fun w s1 ρ1 H1 v x1 rp1 rv1 h1 => ?_⟩
    cases rv1 with
    | @ref n a e =>
      dsimp only at h1
      cases q : rd p s1 n with
      | none => rw [q] at h1; exact h1.elim
      | some ob =>
        rw [q] at h1
        obtain ⟨u, hu, ro⟩ := rp1.at q e
        cases ro with
        | @ins d fs gs dx k r =>
          dsimp only at h1
          by_cases e : d = c
          · subst e
            rw [if_pos rfl] at h1
            cases q2 : lookF i fs with
            | none => rw [q2] at h1; exact h1.elim
            | some w =>
              rw [q2] at h1
              obtain ⟨v, hv, rv⟩ := fields_lookup nd hi k r q2
              exact ⟨a, _, dx, _, v, rfl, hu, T.cl, T.no f (List.mem_of_getElem? hi), hv, h1 ρ1 H1 v Ex.rfl' rp1 rv⟩
          · rw [if_neg e] at h1; exact h1.elim
        | _ => exact h1.elim
    | _ => exact h1.elim
theorem ss_fld {c i : Nat} {f : Str} (T : CC_ G X.K c) (nd : (G.fld c).Nodup) (hi : (G.fld c)[i]? = some f) (ho : SE G p E X o mo) (ha : SE G p E X a ma) (hs : swapsWith a (some (.Attribute o f pos')) pos.line X.env = pure false := by rfl) : SS G p E X (.Assign [.Attribute o f pos'] a pos) (sFldA c i p mo ma) :=
  PS_imp (ps_fld ho ha hs) fun D σ H ⟨ρ, l, s, rl, rp, h⟩ => by
    unfold sFldA at h
    refine ⟨ρ, l, s, rl, rp, PoS.val rl h fun w s1 ρ1 H1 v x1 rp1 rv1 h1 => ⟨ρ1, l, s1, rl.mono x1, rp1, PoS.val (rl.mono x1) h1 fun w2 s2 ρ2 H2 v2 x2 rp2 rv2 h2 => ?_⟩⟩
    cases rv2 with
    | @ref n a e =>
      dsimp only at h2
      cases q : rd p s2 n with
      | none => rw [q] at h2; exact h2.elim
      | some ob =>
        rw [q] at h2
        obtain ⟨u, hu, ro⟩ := rp2.at q e
        cases ro with
        | @ins d fs gs dx k r =>
          dsimp only at h2
          by_cases e2 : d = c ∧ fs.length < 900
          · rw [if_pos e2] at h2
            obtain ⟨rfl, hl⟩ := e2
            have gl : gs.length = fs.length := by simpa using (congrArg List.length k).symm
            refine ⟨a, _, dx, gs, rfl, hu, T.cl, T.no f (List.mem_of_getElem? hi), by omega, ?_⟩
            have xx : Ex ρ2 H2 ρ2 (upd H2 a (.ins (G.cls d) dx (putF f v gs))) := ⟨⟨[], by simp⟩, fun _ h n => absurd h n, fun b o n h => by
              have nb : b ≠ a := fun z => n (by rw [z]; exact List.mem_of_getElem? e)
              rw [upd_ne nb]; exact h⟩
            obtain ⟨k2, r2⟩ := fields_put nd hi ((rv1.mono x2).mono xx) k (r.mono xx)
            obtain ⟨_, rp3⟩ := rp2.wr_ e (o := .ins d (putW i w fs)) (.ins k2 r2)
            exact h2 ρ2 _ σ xx rp3 (((rl.mono x1).mono x2).mono xx)
          · rw [if_neg e2] at h2; exact h2.elim
        | _ => exact h2.elim
    | _ => exact h2.elim

/-! ### making -/
theorem makeM_ok {c : Nat} {ρ : List Addr} {H : Hp} {s : S} {xs : List W} {vs : List V} {Q : VK} {E1 : XK} (rp : Rep G ρ p s H) (rv : RVs G ρ H xs vs) (h : PoV G p ρ H (makeM c Fm p xs s) Q E1) {q dx : Addr} (hq : H q = none) (hdx : H dx = none) (ne : dx ≠ q) :
    spI G Fm (.ref q :: vs) (upd (upd H dx (.own q)) q (.ins (G.cls c) dx [])) (fun v H2 => v = .non ∧ Q (.ref q) H2) E1 := by
  have xd : Ex ρ H ρ (upd H dx (.own q)) := Ex.fresh rp hdx
  have rpd := rp.fresh (u := .own q) hdx
  have hq2 : upd H dx (.own q) q = none := by rw [upd_ne (Ne.symm ne)]; exact hq
  obtain ⟨x2, rp2, rv2⟩ := rpd.al_ (o := .ins c []) (u := .ins (G.cls c) dx []) hq2 (.ins rfl .nil)
  have x02 := xd.trans x2
  refine sp_of (p := p) (s := al s (.ins c [])) (.cons rv2 (rv.mono x02)) rp2 ?_
  unfold makeM at h
  cases e : callF Fm p (.ref (nxt p s) :: xs) (al s (.ins c [])) with
  | bad => rw [e] at h; exact h.elim
  | exc d w s' => rw [e] at h; exact fun ρ' H' dd y rp' rx => h ρ' H' dd (x02.trans y) rp' rx
  | ok w s' =>
    rw [e] at h
    cases w with
    | non =>
      intro ρ' H' v y rp' rv'
      cases rv'
      exact ⟨rfl, h ρ' H' _ (x02.trans y) rp' (rv2.mono y)⟩
    | _ => exact h.elim
theorem se_makeM {c : Nat} (M : Mk X.K (G.cls c) f) (FF : FC G X.prog X.w X.K X.mg X.base k f Fm dws) (cn : Cn X E (k + 1)) (hm : X.mg x = some (.ref (G.cls c))) (ha : SA G p E X (a :: es) mr) (hg : Gl X x := by rfl) (hdb : (x == ("__debug__" : Str)) = false := by decide)
    (he : starEach (a :: es) X.env = (false, eval a X.env) :: starEach es X.env := by rfl) (hpl : (backTo pos (starEach es X.env)).any (·.1) = false := by rfl) : SE G p E X (.Call (.Name x p') (a :: es) [] pos) (eMakeM c Fm p dws mr) := by
  obtain ⟨fd, ps, dvs, ds, F, hb, hd, rdf⟩ := FF.ex
  refine ⟨fun pins s σ H Q I ⟨ρ, l, s0, rl, rp, h⟩ => ?_⟩
  refine wpAny_Call_Name_kw (ld_glob I hg hm ?_ hdb)
  have h2 := PoA.bind (rel := RVs G) (Q := fun vs H1 => ∀ x dx, H1 x = none → H1 dx = none → dx ≠ x → spI G Fm (.ref x :: (vs ++ dvs)) (upd (upd H1 dx (.own x)) x (.ins (G.cls c) dx [])) (fun v H2 => v = .non ∧ Q (.ref x) H2) (WE E σ)) h fun xs s1 ρ1 H1 vs x1 rp1 rv1 h1 => fun q dx hq hdx ne => makeM_ok rp1 (rv1.app (rdf ρ1 H1)) h1 hq hdx ne
  refine PySem.W.callWith_K (h₀ := X.base) I.ok.mod.kin M.kp (thn (ha.run pos pins s σ H _ I ⟨ρ, l, s0, rl, rp, h2⟩) fun us s1 ⟨vs, H1, I1, r, q⟩ => ⟨I1.kIn, ?_⟩) he hpl
  exact run_mkG (E := WE E) M F cn.room cn.gd hb hd (passAt cn.tk σ) I1 r q
theorem se_makeM0 {c : Nat} (M : Mk X.K (G.cls c) f) (FF : FC G X.prog X.w X.K X.mg X.base k f Fm dws) (cn : Cn X E (k + 1)) (hm : X.mg x = some (.ref (G.cls c))) (hg : Gl X x := by rfl) (hdb : (x == ("__debug__" : Str)) = false := by decide) : SE G p E X (.Call (.Name x p') [] [] pos) (eMakeM c Fm p dws aNil) := by
  obtain ⟨fd, ps, dvs, ds, F, hb, hd, rdf⟩ := FF.ex
  refine ⟨fun pins s σ H Q I ⟨ρ, l, s0, rl, rp, h⟩ => ?_⟩
  refine wpAny_Call_Name_kw (ld_glob I hg hm ?_ hdb)
  exact PySem.W.callWith_K0 I.kIn M.kp (run_mkG (us := []) (vs := []) (E := WE E) M F cn.room cn.gd hb hd (passAt cn.tk σ) I .nil fun q dx hq hdx ne => makeM_ok rp (rdf ρ H) h hq hdx ne)
end
end CC
set_option Elab.async false
set_option linter.all false
set_option maxRecDepth 100000
/-! CCComp: list comprehensions -/
namespace CC
open PySem PySem.Spec PyProof.Rows L2

/-- the target of a comprehension: a name, two, three names -/
inductive CTg where
  | nm (i : Nat) | pr (i j : Nat) | tr (i j k : Nat)
def CTg.slots : CTg → List Nat
  | .nm i => [i]
  | .pr i j => [i, j]
  | .tr i j k => [i, j, k]
def CTg.tg (K : PySem.W.Frag) : CTg → TG
  | .nm i => gName i
  | .pr i j => gTup K 2 (gCons (gName i) (gCons (gName j) gNil))
  | .tr i j k => gTup K 3 (gCons (gName i) (gCons (gName j) (gCons (gName k) gNil)))
def CTg.bind (w : W) (l : Lo) : CTg → Option Lo
  | .nm i => some (l.set i (some w))
  | .pr i j => (match w with | .tup [a, b] => some ((l.set i (some a)).set j (some b)) | _ => none)
  | .tr i j k => (match w with | .tup [a, b, c] => some (((l.set i (some a)).set j (some b)).set k (some c)) | _ => none)
def wipeL (l : Lo) : List Nat → Lo
  | [] => l
  | v :: vs => (wipeL l vs).set v none
def tTrue : Lo → S → R Bool := fun _ s => .ok true s
def lcI (p : Hh) (ct : CTg) (t : Lo → S → R Bool) (e : Lo → S → R W) (d : ItD) (n : Nat) : Nat → Nat → Lo → S → R W
  | 0, _, _, _ => .bad
  | k + 1, i, l, s => match d.next p s i with
    | none => .bad
    | some none => .ok (.ref n) s
    | some (some w) => match ct.bind w l with
      | none => .bad
      | some l1 => match t l1 s with
        | .ok false s1 => lcI p ct t e d n k (i + 1) l s1
        | .ok true s1 => (match e l1 s1 with
          | .ok y s2 => (match rd p s2 n with
            | some (.lst acc) => if acc.length ≤ 1000000 then lcI p ct t e d n k (i + 1) l (wr p s2 n (.lst (acc ++ [y]))) else .bad
            | _ => .bad)
          | _ => .bad)
        | _ => .bad
def eLc (p : Hh) (ct : CTg) (mi : Lo → S → R ItD) (t : Lo → S → R Bool) (e : Lo → S → R W) : Lo → S → R W := fun l s => (mi l s).bind fun d s1 =>
  lcI p ct t e d (nxt p s1) (d.cnt p s1 + 1) 0 (wipeL l ct.slots) (al s1 (.lst []))

section
variable {G : GE} {p : Hh} {E : WX} {X : Cx} {k : Nat} {pos pos' : Pos} {ρ : List Addr} {H : Hp} {s : S} {l : Lo} {σ : L2.St}
abbrev E0 : WX := fun _ _ _ _ => False
theorem wipe_rl (r : RL G ρ H l σ) : ∀ vs : List Nat, (∀ i ∈ vs, G.hold ≠ some i) → RL G ρ H (wipeL l vs) (wipe σ vs)
  | [], _ => r
  | v :: vs, h => (wipe_rl r vs fun i m => h i (List.mem_cons_of_mem _ m)).delσ v (h v (List.mem_cons_self ..))
theorem wipe_len (σ : L2.St) : ∀ vs, (wipe σ vs).length = σ.length := fun vs => wipe_length σ vs
/-- what the target does -/
theorem ct_bind {K : PySem.W.Frag} {ct : CTg} {w : W} {v : V} {l1 : Lo} {Q : L2.St → Hp → Prop} (nd : ct.slots.Nodup) (hh : ∀ i ∈ ct.slots, G.hold ≠ some i) (rl : RL G ρ H l σ) (rv : RV G ρ H w v) (h : ct.bind w (wipeL l ct.slots) = some l1) (hq : ∀ σ2, RL G ρ H l1 σ2 → wipe σ2 ct.slots = wipe σ ct.slots → Q σ2 H) : ct.tg K v (wipe σ ct.slots) H Q := by
  have r0 := wipe_rl rl ct.slots hh
  cases ct with
  | nm i =>
    cases h
    refine hq _ (r0.set i rv (hh _ (by simp [CTg.slots]))) ?_
    simp [CTg.slots, wipe, List.set_set]
  | pr i j =>
    cases rv with
    | @tup a ws vs na ha r =>
      match ws, vs, r, h with
      | [], _, _, h => cases h
      | [_], _, _, h => cases h
      | _ :: _ :: _ :: _, _, _, h => cases h
      | [w1, w2], _, .cons r1 (.cons r2 .nil), h =>
        cases h
        have hij : i ≠ j := by simpa [CTg.slots] using nd
        refine ⟨a, _, rfl, SqT.of ha, rfl, _, _, rfl, _, _, rfl, rfl, hq _ ((r0.set i r1 (hh _ (by simp [CTg.slots]))).set j r2 (hh _ (by simp [CTg.slots]))) ?_⟩
        apply List.ext_getElem?
        intro m
        simp only [CTg.slots, wipe, List.getElem?_set, List.length_set]
        by_cases h1 : i = m <;> by_cases h2 : j = m <;> simp_all
    | _ => cases h
  | tr i j k =>
    cases rv with
    | @tup a ws vs na ha r =>
      match ws, vs, r, h with
      | [], _, _, h => cases h
      | [_], _, _, h => cases h
      | [_, _], _, _, h => cases h
      | _ :: _ :: _ :: _ :: _, _, _, h => cases h
      | [w1, w2, w3], _, .cons r1 (.cons r2 (.cons r3 .nil)), h =>
        cases h
        have hd : (i ≠ j ∧ i ≠ k) ∧ j ≠ k := by simpa [CTg.slots] using nd
        obtain ⟨⟨hij, hik⟩, hjk⟩ := hd
        refine ⟨a, _, rfl, SqT.of ha, rfl, _, _, rfl, _, _, rfl, _, _, rfl, rfl, hq _ (((r0.set i r1 (hh _ (by simp [CTg.slots]))).set j r2 (hh _ (by simp [CTg.slots]))).set k r3 (hh _ (by simp [CTg.slots]))) ?_⟩
        apply List.ext_getElem?
        intro m
        simp only [CTg.slots, wipe, List.getElem?_set, List.length_set]
        by_cases h1 : i = m <;> by_cases h2 : j = m <;> by_cases h3 : k = m <;> simp_all
    | _ => cases h
theorem cn_blk {s : Shared} {H : Hp} {scope : Scope} {ce : Env} {fp : List Addr} (cn : Cn X E k) : Cn (X.blk s H scope ce fp) E0 k := ⟨cn.calm, cn.room, takes0, PassesOwn.never, cn.nd, cn.gd⟩
/-- the tests of a comprehension -/
def STs (G : GE) (p : Hh) (E : WX) (X : Cx) (ifs : List Expr) (m : Lo → S → R Bool) : Prop := PTs X ifs (tT G p E m)
theorem sts_nil : STs G p E X [] tTrue := ⟨fun pins s σ H Q I ⟨ρ, l, s0, rl, rp, h⟩ => pts_nil.run pins s σ H Q I (h ρ H true Ex.rfl' rp rfl)⟩
theorem sts_one {c : Expr} {m : Lo → S → R Bool} (h : ST G p E X c m) : STs G p E X [c] m := ⟨fun pins s σ H Q I w => (pts_one h).run pins s σ H Q I w⟩
variable {elt tg iter : Expr} {ifs : List Expr} {scope : Scope} {own : List (Str × Nat)} {ct : CTg} {mi : Lo → S → R ItD} {mt : Lo → S → R Bool} {me : Lo → S → R W}
theorem lc_way {J : It} {D : Addr} {d : ItD} {Q : VK} {E1 : XK} {tgg : TG} (nd : ct.slots.Nodup) (hh : ∀ i ∈ ct.slots, G.hold ≠ some i) {ρ0 : List Addr} {H0 : Hp} (ri : RI G p ρ0 H0 d J) (rl0 : RL G ρ0 H0 l σ) {s0 : S} (rp0 : Rep G ρ0 p s0 H0) (hD : H0 D = none)
    (h : PoV G p ρ0 H0 (lcI p ct mt me d (nxt p s0) (d.cnt p s0 + 1) 0 (wipeL l ct.slots) (al s0 (.lst []))) Q E1) :
    ∃ Wn : Nat → Nat → Hp → Prop, (∃ m, Wn 0 m (upd H0 D (.lst []))) ∧ ∀ i m H, Wn i m H →
      (J.stop i H ∧ Q (.ref D) H) ∨ (J.go i H ∧ ∃ Nx : Hp → Prop, (∀ H', Nx H' → ∃ m', m' < m ∧ Wn (i + 1) m' H') ∧ ∀ x H', J.yld i H x H' → ct.tg X.K x (wipe σ ct.slots) H' fun σ2 H2 => wipe σ2 ct.slots = wipe σ ct.slots ∧ tT G p E0 mt σ2 H2 fun b H3 =>
        if b = true then tI G p E0 me σ2 H3 fun y H4 => ∃ acc, H4 D = some (.lst acc) ∧ acc.length < sizeLine ∧ Nx (upd H4 D (.lst (acc ++ [y]))) else Nx H3) := by
  generalize hn : nxt p s0 = n at h
  generalize d.cnt p s0 + 1 = fuel at h
  obtain ⟨x1, rp1, rv1⟩ := rp0.al_ (o := .lst []) hD (.lst (vs := []) .nil)
  rw [hn] at rv1
  have eD : (ρ0 ++ [D])[n]? = some D := by cases rv1; assumption
  refine ⟨fun i m H => ∃ ρ' s', Ex (ρ0 ++ [D]) (upd H0 D (.lst [])) ρ' H ∧ Rep G ρ' p s' H ∧ PoV G p ρ' H (lcI p ct mt me d n m i (wipeL l ct.slots) s') Q E1, ⟨fuel, _, _, Ex.rfl', rp1, PoA.base h x1⟩, ?_⟩
  rintro i m H1 ⟨ρ1, s1, x2, rp2, h1⟩
  have eD1 := x2.get eD
  cases m with
  | zero => exact h1.elim
  | succ m =>
    unfold lcI at h1
    cases q : d.next p s1 i with
    | none => rw [q] at h1; exact h1.elim
    | some o =>
      rw [q] at h1
      cases o with
      | none => exact .inl ⟨ri.no i s1 ρ1 H1 (x1.trans x2) rp2 q, h1 ρ1 H1 _ Ex.rfl' rp2 (.ref eD1)⟩
      | some w =>
        obtain ⟨go, yl⟩ := ri.yes i w s1 ρ1 H1 (x1.trans x2) rp2 q
        refine .inr ⟨go, fun H' => ∃ ρ' s', Ex (ρ0 ++ [D]) (upd H0 D (.lst [])) ρ' H' ∧ Rep G ρ' p s' H' ∧ PoV G p ρ' H' (lcI p ct mt me d n m (i + 1) (wipeL l ct.slots) s') Q E1, fun H' z => ⟨m, Nat.lt_succ_self m, z⟩, fun v H2 y => ?_⟩
        obtain ⟨x3, rp3, rv⟩ := yl v H2 y
        dsimp only at h1
        cases q2 : ct.bind w (wipeL l ct.slots) with
        | none => rw [q2] at h1; exact h1.elim
        | some l1 =>
          rw [q2] at h1
          dsimp only at h1
          refine ct_bind nd hh (((rl0.mono x1).mono x2).mono x3) rv q2 fun σ2 rl2 hw => ⟨hw, ρ1, l1, s1, rl2, rp3, ?_⟩
          have h1 := PoA.base h1 x3
          cases q3 : mt l1 s1 with
          | bad => rw [q3] at h1; exact h1.elim
          | exc _ _ _ => rw [q3] at h1; exact h1.elim
          | ok b s2 =>
            rw [q3] at h1
            intro ρ4 H4 b' x4 rp4 eb
            cases eb
            cases b with
            | false => exact ⟨ρ4, s2, ((x2.trans x3).trans x4), rp4, PoA.base h1 x4⟩
            | true =>
              dsimp only at h1
              refine ⟨ρ4, l1, s2, rl2.mono x4, rp4, ?_⟩
              have h1 := PoA.base h1 x4
              cases q4 : me l1 s2 with
              | bad => rw [q4] at h1; exact h1.elim
              | exc _ _ _ => rw [q4] at h1; exact h1.elim
              | ok yw s3 =>
                rw [q4] at h1
                dsimp only at h1
                intro ρ5 H5 yv x5 rp5 rv5
                have h1 := PoA.base h1 x5
                have eD5 := x5.get (x4.get (x3.get eD1))
                cases q5 : rd p s3 n with
                | none => rw [q5] at h1; exact h1.elim
                | some ob =>
                  rw [q5] at h1
                  obtain ⟨u, hu, ro⟩ := rp5.at q5 eD5
                  cases ro with
                  | @lst ws vs r =>
                    dsimp only at h1
                    by_cases hl : ws.length ≤ 1000000
                    · rw [if_pos hl] at h1
                      refine ⟨vs, hu, by rw [← r.len, sizeLine_eq]; omega, ?_⟩
                      have xx : Ex ρ5 H5 ρ5 (upd H5 D (.lst (vs ++ [yv]))) := ⟨⟨[], by simp⟩, fun _ h n => absurd h n, fun b o nb hb => by
                        have ne : b ≠ D := fun z => nb (by rw [z]; exact List.mem_of_getElem? eD5)
                        rw [upd_ne ne]; exact hb⟩
                      obtain ⟨_, rp6⟩ := rp5.wr_ eD5 (o := .lst (ws ++ [yw])) (u := .lst (vs ++ [yv])) (.lst ((r.mono xx).app (.cons (rv5.mono xx) .nil)))
                      exact ⟨ρ5, _, (((x2.trans x3).trans x4).trans x5).trans xx, rp6, PoA.base h1 xx⟩
                    · rw [if_neg hl] at h1; exact h1.elim
                  | _ => exact h1.elim
theorem se_lc (cn : Cn X E k) (hi : SI G p E X tg iter mi) (ok : BlkOk X.N X.env.scope scope own) (hown : own.map (·.2) = ct.slots) (hnd : ct.slots.Nodup)
    (hg : ∀ (s : Shared) (H : Hp) (C : Addr) (cl : List (Str × Addr)) (fp : List Addr), PG (X.blk s H scope (compEnvC scope cl C X.env) fp) tg (ct.tg X.K))
    (ht : ∀ (s : Shared) (H : Hp) (C : Addr) (cl : List (Str × Addr)) (fp : List Addr), Cn (X.blk s H scope (compEnvC scope cl C X.env) fp) E0 k → STs G p E0 (X.blk s H scope (compEnvC scope cl C X.env) fp) ifs mt)
    (he : ∀ (s : Shared) (H : Hp) (C : Addr) (cl : List (Str × Addr)) (fp : List Addr), Cn (X.blk s H scope (compEnvC scope cl C X.env) fp) E0 k → SE G p E0 (X.blk s H scope (compEnvC scope cl C X.env) fp) elt me)
    (hs : ∀ x, foldedSetIterable iter X.env x = pure x := by intro _; rfl) (hh : ∀ i ∈ ct.slots, G.hold ≠ some i := by intro _ _ z; cases z) : SE G p E X (.ListComp elt [⟨tg, iter, ifs, 0⟩] scope pos) (eLc p ct mi mt me) := by
  have h0 := pe_lc (pos := pos) (elt := elt) (ifs := ifs) (own := own) cn.calm cn.nd hi ok hg (fun s H C cl fp => ht s H C cl fp (cn_blk cn)) (fun s H C cl fp => he s H C cl fp (cn_blk cn)) hs
  rw [hown] at h0
  exact PE_imp h0 fun σ H Q ⟨ρ, l, s, rl, rp, h⟩ => ⟨ρ, l, s, rl, rp, PoA.bind h fun d s1 ρ1 H1 J x1 rp1 ri h1 => fun D hD => lc_way (X := X) (tgg := ct.tg X.K) hnd hh ri (rl.mono x1) rp1 hD h1⟩
/-- name = [..] -/
theorem ss_setLc (i : Nat) {y : Str} {py spos : Pos} (cn : Cn X E k) (hi : SI G p E X tg iter mi) (ok : BlkOk X.N X.env.scope scope own) (hown : own.map (·.2) = ct.slots) (hnd : ct.slots.Nodup)
    (hg : ∀ (s : Shared) (H : Hp) (C : Addr) (cl : List (Str × Addr)) (fp : List Addr), PG (X.blk s H scope (compEnvC scope cl C X.env) fp) tg (ct.tg X.K))
    (ht : ∀ (s : Shared) (H : Hp) (C : Addr) (cl : List (Str × Addr)) (fp : List Addr), Cn (X.blk s H scope (compEnvC scope cl C X.env) fp) E0 k → STs G p E0 (X.blk s H scope (compEnvC scope cl C X.env) fp) ifs mt)
    (he : ∀ (s : Shared) (H : Hp) (C : Addr) (cl : List (Str × Addr)) (fp : List Addr), Cn (X.blk s H scope (compEnvC scope cl C X.env) fp) E0 k → SE G p E0 (X.blk s H scope (compEnvC scope cl C X.env) fp) elt me)
    (hsw : swapsWith (.ListComp elt [⟨tg, iter, ifs, 0⟩] scope pos) (some (.Name y py)) spos.line X.env = pure true) (hy : X.N[i]? = some y := by rfl) (hyl : X.env.scope.names.lookup y = some .local := by rfl)
    (hs : ∀ x, foldedSetIterable iter X.env x = pure x := by intro _; rfl) (hh : ∀ i ∈ ct.slots, G.hold ≠ some i := by intro _ _ z; cases z) (hh2 : G.hold ≠ some i := by intro z; cases z) : SS G p E X (.Assign [.Name y py] (.ListComp elt [⟨tg, iter, ifs, 0⟩] scope pos) spos) (sAsg (gNm i) (eLc p ct mi mt me)) := by
  have h0 := ps_setLc (spos := spos) (pos := pos) (elt := elt) (ifs := ifs) (own := own) cn.calm cn.nd hy hyl hsw hi ok hg (fun s H C cl fp => ht s H C cl fp (cn_blk cn)) (fun s H C cl fp => he s H C cl fp (cn_blk cn)) hs
  rw [hown] at h0
  refine PS_imp h0 fun D σ H ⟨ρ, l, s, rl, rp, h⟩ => ⟨ρ, l, s, rl, rp, ?_⟩
  have h1 := PoS.val (Q := fun v H1 => gName i v σ H1 D.nx) rl h fun w s1 ρ1 H1 v x1 rp1 rv1 h1 => h1 ρ1 H1 _ Ex.rfl' rp1 ((rl.mono x1).set i rv1 hh2)
  exact PoA.bind h1 fun d s1 ρ1 H1 J x1 rp1 ri h1 => fun D' hD => lc_way (X := X) (tgg := ct.tg X.K) hnd hh ri (rl.mono x1) rp1 hD h1
end
end CC
set_option Elab.async false
set_option linter.all false
set_option maxRecDepth 100000
/-! CCPrim: operators on values -/
namespace CC
open PySem PySem.Spec PyProof.Rows L2

def i64 (i : Int) : Bool := decide (-(2 ^ 64) < i) && decide (i < 2 ^ 64)
def gAdd (p : Hh) (x y : W) (s : S) : O2 := match x, y with
  | .int i, .int j => some (.int (i + j), s)
  | .str a, .str b => if a.length + b.length ≤ 1000000 then some (.str (a ++ b), s) else none
  | .tup a, .tup b => if a.length + b.length ≤ 1000000 then some (.tup (a ++ b), s) else none
  | .ref n, .ref m => (match rd p s n, rd p s m with
    | some (.lst a), some (.lst b) => if a.length + b.length ≤ 1000000 then some (.ref (nxt p s), al s (.lst (a ++ b))) else none
    | _, _ => none)
  | _, _ => none
def gSub (_ : Hh) (x y : W) (s : S) : O2 := match x, y with
  | .int i, .int j => some (.int (i - j), s)
  | _, _ => none
def repL (k : Int) (a : List W) : List W := (List.replicate k.toNat a).flatten
def gMul (p : Hh) (x y : W) (s : S) : O2 := match x, y with
  | .int i, .int j => if i64 i || i64 j then some (.int (i * j), s) else none
  | .ref n, .int k => (match rd p s n with
    | some (.lst a) => if -(2 ^ 63) ≤ k ∧ k < 2 ^ 63 ∧ a.length * k.toNat ≤ 1000000 then some (.ref (nxt p s), al s (.lst (repL k a))) else none
    | _ => none)
  | .tup a, .int k => if a ≠ [] ∧ 2 ≤ k ∧ k ≤ 1000 ∧ a.length ≤ 1000 then some (.tup (repL k a), s) else none
  | _, _ => none
def gFdiv (_ : Hh) (x y : W) (s : S) : O2 := match x, y with
  | .int i, .int j => if 0 < j ∧ j < 1073741824 then some (.int (i / j), s) else none
  | _, _ => none
def gMod (_ : Hh) (x y : W) (s : S) : O2 := match x, y with
  | .int i, .int j => if 0 < j then some (.int (i % j), s) else none
  | _, _ => none
def gPow (_ : Hh) (x y : W) (s : S) : O2 := match x, y with
  | .int i, .int j => if 0 ≤ j ∧ j ≤ 1000000 ∧ i.natAbs < 2 ^ 64 then some (.int (i ^ j.toNat), s) else none
  | _, _ => none
def gNeg (_ : Hh) (x : W) (s : S) : O2 := match x with
  | .int i => some (.int (-i), s)
  | _ => none
/-! ### order -/
def isInts : List W → Option (List Int)
  | [] => some []
  | .int i :: r => (isInts r).map (i :: ·)
  | _ => none
def gLt (_ : Hh) (x y : W) (s : S) : O2 := match x, y with
  | .int i, .int j => some (.bl (decide (i < j)), s)
  | .tup a, .tup b => (match isInts a, isInts b with | some ns, some ms => some (.bl (HT.lexLt ns ms), s) | _, _ => none)
  | _, _ => none
def gLe (_ : Hh) (x y : W) (s : S) : O2 := match x, y with
  | .int i, .int j => some (.bl (decide (i ≤ j)), s)
  | _, _ => none
def gGt (_ : Hh) (x y : W) (s : S) : O2 := match x, y with
  | .int i, .int j => some (.bl (decide (j < i)), s)
  | _, _ => none
def gGe (_ : Hh) (x y : W) (s : S) : O2 := match x, y with
  | .int i, .int j => some (.bl (decide (j ≤ i)), s)
  | _, _ => none
/-! ### is -/
def isNon : W → Bool
  | .non => true
  | _ => false
def gIs (_ : Hh) (x y : W) (s : S) : O2 := match y with
  | .non => some (.bl (isNon x), s)
  | .bl b => (match x with | .bl a => some (.bl (decide (a = b)), s) | _ => none)
  | _ => none
def gIsN (_ : Hh) (x y : W) (s : S) : O2 := match y with
  | .non => some (.bl (!isNon x), s)
  | .bl b => (match x with | .bl a => some (.bl (!decide (a = b)), s) | _ => none)
  | _ => none
/-! ### rules -/
section
variable {G : GE} {X : Cx}
theorem opI_of {F : Value → Value → Sem Value} {r : R2} {f : Hh → W → W → S → O2} (hr : OpR X F r) (h : ∀ (p : Hh) (ρ : List Addr) (s : S) (H : Hp) (x y : W) (v u : V) (Q : VK), Rep G ρ p s H → RV G ρ H x v → RV G ρ H y u → PoO G p ρ H (f p x y s) Q → r v u H Q) : OpI G X F f :=
  fun p pins s σ H v u v' u' Q I rv ru ⟨ρ, s0, x, y, rp, r1, r2, q⟩ => hr pins s σ H v u v' u' Q I rv ru (h p ρ s0 H x y v u Q rp r1 r2 q)
theorem unI_of {F : Value → Sem Value} {r : V → Hp → VK → Prop} {f : Hh → W → S → O2} (hr : UnR X F r) (h : ∀ (p : Hh) (ρ : List Addr) (s : S) (H : Hp) (x : W) (v : V) (Q : VK), Rep G ρ p s H → RV G ρ H x v → PoO G p ρ H (f p x s) Q → r v H Q) : UnI G X F f :=
  fun p pins s σ H v v' Q I rv ⟨ρ, s0, x, rp, r1, q⟩ => hr pins s σ H v v' Q I rv (h p ρ s0 H x v Q rp r1 q)
theorem callI_of {F : Value} {r : List V → Hp → VK → Prop} {f : Hh → List W → S → O2} (hr : CallR X F r) (h : ∀ (p : Hh) (ρ : List Addr) (s : S) (H : Hp) (xs : List W) (vs : List V) (Q : VK), Rep G ρ p s H → RVs G ρ H xs vs → PoO G p ρ H (f p xs s) Q → r vs H Q) : CallI G X F f :=
  fun p pins s σ H vs us Q I rv ⟨ρ, s0, xs, rp, r1, q⟩ => hr pins s σ H vs us Q I rv (h p ρ s0 H xs vs Q rp r1 q)
/-- a new list's cell -/
theorem po_lst {p : Hh} {ρ : List Addr} {s : S} {H : Hp} {ws : List W} {vs : List V} {Q : VK} (rp : Rep G ρ p s H) (r : RVs G ρ H ws vs) (h : PoO G p ρ H (some (.ref (nxt p s), al s (.lst ws))) Q) {q : Addr} (hq : H q = none) : Q (.ref q) (upd H q (.lst vs)) := by
  have x : Ex ρ H (ρ ++ [q]) (upd H q (.lst vs)) := Ex.al rp hq
  obtain ⟨_, rp2, rv⟩ := rp.al_ (o := .lst ws) hq (.lst (r.mono x))
  exact h _ _ _ x rp2 rv
/-- a new tuple -/
theorem po_tup {p : Hh} {ρ : List Addr} {s : S} {H : Hp} {ws : List W} {vs : List V} {Q : VK} (rp : Rep G ρ p s H) (r : RVs G ρ H ws vs) (h : PoO G p ρ H (some (.tup ws, s)) Q) {q : Addr} (hq : H q = none) : Q (.ref q) (upd H q (.tup vs)) :=
  have x := Ex.fresh (u := .tup vs) rp hq
  h ρ _ _ x (rp.fresh hq) (.tup (rp.ref_none hq) upd_same (r.mono x))
theorem lst_at {p : Hh} {ρ : List Addr} {s : S} {H : Hp} {n : Nat} {a : Addr} {ws : List W} (rp : Rep G ρ p s H) (h : rd p s n = some (.lst ws)) (e : ρ[n]? = some a) : ∃ vs, H a = some (.lst vs) ∧ RVs G ρ H ws vs := by
  obtain ⟨u, hu, ro⟩ := rp.at h e
  cases ro with
  | lst r => exact ⟨_, hu, r⟩
theorem i_add : OpI G X (binaryOp .Add) gAdd := by
  refine opI_of (OpR.or op_add (OpR.or op_add_str (OpR.or op_catA op_cat))) fun p ρ s H x y v u Q rp r1 r2 h => ?_
  cases r1 with
  | int i => cases r2 with
    | int j => exact .inl ⟨i, j, rfl, rfl, po_v h rp (.int _)⟩
    | _ => exact (show False from h).elim
  | str a => cases r2 with
    | str b =>
      simp only [gAdd] at h
      split at h
      · rename_i hl
        exact .inr (.inl ⟨a, b, rfl, rfl, million hl, po_v h rp (.str _)⟩)
      · exact h.elim
    | _ => exact (show False from h).elim
  | @tup a ws vs na ha r => cases r2 with
    | @tup b ws' vs' nb hb r' =>
      simp only [gAdd] at h
      split at h
      · rename_i hl
        refine .inr (.inr (.inl ⟨a, b, vs, vs', rfl, rfl, SqT.of ha, SqT.of hb, by rw [← r.len, ← r'.len]; exact million hl, fun e => ?_, fun _ e => ?_, fun _ _ q hq => po_tup rp (r.app r') h hq⟩))
        · subst e
          cases r
          exact h ρ H _ Ex.rfl' rp (.tup nb hb r')
        · subst e
          cases r'
          rw [List.append_nil] at h
          exact h ρ H _ Ex.rfl' rp (.tup na ha r)
      · exact h.elim
    | _ => exact (show False from h).elim
  | @ref n a e => cases r2 with
    | @ref m b e' =>
      simp only [gAdd] at h
      cases q1 : rd p s n with
      | none => rw [q1] at h; exact h.elim
      | some o1 =>
        cases q2 : rd p s m with
        | none =>
          rw [q1, q2] at h
          cases o1 <;> exact h.elim
        | some o2 =>
          rw [q1, q2] at h
          cases o1 with
          | lst ws => cases o2 with
            | lst ws' =>
              dsimp only at h
              split at h
              · rename_i hl
                obtain ⟨vs, hv, r⟩ := lst_at rp q1 e
                obtain ⟨vs', hv', r'⟩ := lst_at rp q2 e'
                exact .inr (.inr (.inr ⟨a, b, vs, vs', rfl, rfl, hv, hv', by rw [← r.len, ← r'.len]; exact million hl, fun q hq => po_lst rp (r.app r') h hq⟩))
              · exact h.elim
            | _ => exact h.elim
          | _ => exact h.elim
    | _ => exact (show False from h).elim
  | _ => exact (show False from h).elim
theorem i_sub : OpI G X (binaryOp .Sub) gSub := by
  refine opI_of op_sub fun p ρ s H x y v u Q rp r1 r2 h => ?_
  cases r1 with
  | int i => cases r2 with
    | int j => exact ⟨i, j, rfl, rfl, po_v h rp (.int _)⟩
    | _ => exact (show False from h).elim
  | _ => exact (show False from h).elim
theorem i64_ok {i j : Int} (h : (i64 i || i64 j) = true) : CMul i j := by
  rcases Bool.or_eq_true_iff.mp h with h | h
  · obtain ⟨a, b⟩ := Bool.and_eq_true_iff.mp h
    exact .inl ⟨of_decide_eq_true a, of_decide_eq_true b⟩
  · obtain ⟨a, b⟩ := Bool.and_eq_true_iff.mp h
    exact .inr ⟨of_decide_eq_true a, of_decide_eq_true b⟩
theorem RVs.rep {ρ : List Addr} {H : Hp} {ws : List W} {vs : List V} (r : RVs G ρ H ws vs) : ∀ n : Nat, RVs G ρ H (List.replicate n ws).flatten (List.replicate n vs).flatten
  | 0 => .nil
  | n + 1 => by
    simp only [List.replicate_succ, List.flatten_cons]
    exact r.app (RVs.rep r n)
theorem i_mul : OpI G X (binaryOp .Mult) gMul := by
  refine opI_of (OpR.or op_mul (OpR.or op_rep op_repT)) fun p ρ s H x y v u Q rp r1 r2 h => ?_
  cases r1 with
  | int i => cases r2 with
    | int j =>
      simp only [gMul] at h
      split at h
      · rename_i hc
        exact .inl ⟨i, j, rfl, rfl, i64_ok hc, po_v h rp (.int _)⟩
      · exact h.elim
    | _ => exact (show False from h).elim
  | @ref n a e => cases r2 with
    | int k =>
      simp only [gMul] at h
      cases q1 : rd p s n with
      | none => rw [q1] at h; exact h.elim
      | some o1 =>
        rw [q1] at h
        cases o1 with
        | lst ws =>
          dsimp only at h
          split at h
          · rename_i hl
            obtain ⟨vs, hv, r⟩ := lst_at rp q1 e
            obtain ⟨h1, h2, h3⟩ := hl
            exact .inr (.inl ⟨a, k, vs, rfl, rfl, hv, h1, h2, by rw [← r.len]; exact million h3, fun q hq => po_lst rp (r.rep _) h hq⟩)
          · exact h.elim
        | _ => exact h.elim
    | _ => exact (show False from h).elim
  | @tup a ws vs na ha r => cases r2 with
    | int k =>
      simp only [gMul] at h
      split at h
      · rename_i hl
        obtain ⟨h1, h2, h3, h4⟩ := hl
        refine .inr (.inr ⟨a, k, vs, rfl, rfl, SqT.of ha, fun e => ?_, h2, h3, by rw [← r.len]; exact h4, fun q hq => po_tup rp (r.rep _) h hq⟩)
        subst e
        cases r
        exact h1 rfl
      · exact h.elim
    | _ => exact (show False from h).elim
  | _ => exact (show False from h).elim
theorem i_fdiv : OpI G X (binaryOp .FloorDiv) gFdiv := by
  refine opI_of op_fdiv fun p ρ s H x y v u Q rp r1 r2 h => ?_
  cases r1 with
  | int i => cases r2 with
    | int j =>
      simp only [gFdiv] at h
      split at h
      · rename_i hc
        exact ⟨i, j, rfl, rfl, hc, po_v h rp (.int _)⟩
      · exact h.elim
    | _ => exact (show False from h).elim
  | _ => exact (show False from h).elim
theorem i_mod : OpI G X (binaryOp .Mod) gMod := by
  refine opI_of op_mod fun p ρ s H x y v u Q rp r1 r2 h => ?_
  cases r1 with
  | int i => cases r2 with
    | int j =>
      simp only [gMod] at h
      split at h
      · rename_i hc
        exact ⟨i, j, rfl, rfl, hc, po_v h rp (.int _)⟩
      · exact h.elim
    | _ => exact (show False from h).elim
  | _ => exact (show False from h).elim
theorem i_pow : OpI G X (binaryOp .Pow) gPow := by
  refine opI_of op_pow fun p ρ s H x y v u Q rp r1 r2 h => ?_
  cases r1 with
  | int i => cases r2 with
    | int j =>
      simp only [gPow] at h
      split at h
      · rename_i hc
        exact ⟨i, j, rfl, rfl, hc, po_v h rp (.int _)⟩
      · exact h.elim
    | _ => exact (show False from h).elim
  | _ => exact (show False from h).elim
theorem i_neg : UnI G X (unaryOp .USub) gNeg := by
  refine unI_of un_neg fun p ρ s H x v Q rp r1 h => ?_
  cases r1 with
  | int i => exact ⟨i, rfl, po_v h rp (.int _)⟩
  | _ => exact (show False from h).elim
theorem isInts_ok {ρ : List Addr} {H : Hp} : ∀ {ws : List W} {vs : List V} {ns : List Int}, isInts ws = some ns → RVs G ρ H ws vs → vs = ns.map V.int
  | [], _, ns, h, r => by simp only [isInts] at h; cases h; cases r; rfl
  | w :: ws, _, ns, h, r => by
    cases r with
    | cons r1 r2 =>
      cases r1 with
      | int i =>
        simp only [isInts] at h
        cases q : isInts ws with
        | none => rw [q] at h; cases h
        | some ms =>
          rw [q] at h
          cases h
          rw [isInts_ok q r2]
          rfl
      | _ => cases h
theorem i_lt (hu : X.A.units < cLine) : OpI G X (compareOp .Lt) gLt := by
  refine opI_of (OpR.or op_lt (op_ltT hu)) fun p ρ s H x y v u Q rp r1 r2 h => ?_
  cases r1 with
  | int i => cases r2 with
    | int j => exact .inl ⟨i, j, rfl, rfl, po_v h rp (.bl _)⟩
    | _ => exact (show False from h).elim
  | @tup a ws vs na ha r => cases r2 with
    | @tup b ws' vs' nb hb r' =>
      simp only [gLt] at h
      cases q1 : isInts ws with
      | none => rw [q1] at h; exact h.elim
      | some ns =>
        cases q2 : isInts ws' with
        | none => rw [q1, q2] at h; exact h.elim
        | some ms =>
          rw [q1, q2] at h
          have e1 := isInts_ok q1 r
          have e2 := isInts_ok q2 r'
          subst e1 e2
          exact .inr ⟨a, b, ns, ms, rfl, rfl, SqT.of ha, SqT.of hb, po_v h rp (.bl _)⟩
    | _ => exact (show False from h).elim
  | _ => exact (show False from h).elim
theorem i_le : OpI G X (compareOp .LtE) gLe := by
  refine opI_of op_le fun p ρ s H x y v u Q rp r1 r2 h => ?_
  cases r1 with
  | int i => cases r2 with
    | int j => exact ⟨i, j, rfl, rfl, po_v h rp (.bl _)⟩
    | _ => exact (show False from h).elim
  | _ => exact (show False from h).elim
theorem i_gt : OpI G X (compareOp .Gt) gGt := by
  refine opI_of op_gt fun p ρ s H x y v u Q rp r1 r2 h => ?_
  cases r1 with
  | int i => cases r2 with
    | int j => exact ⟨i, j, rfl, rfl, po_v h rp (.bl _)⟩
    | _ => exact (show False from h).elim
  | _ => exact (show False from h).elim
theorem i_ge : OpI G X (compareOp .GtE) gGe := by
  refine opI_of op_ge fun p ρ s H x y v u Q rp r1 r2 h => ?_
  cases r1 with
  | int i => cases r2 with
    | int j => exact ⟨i, j, rfl, rfl, po_v h rp (.bl _)⟩
    | _ => exact (show False from h).elim
  | _ => exact (show False from h).elim
theorem isNon_ok {ρ : List Addr} {H : Hp} {x : W} {v : V} (r : RV G ρ H x v) : isNon x = decide (v = .non) := by
  cases r <;> first | rfl | simp [isNon]
theorem i_is : OpI G X (compareOp .Is) gIs := by
  refine opI_of (OpR.or op_isN op_isBl) fun p ρ s H x y v u Q rp r1 r2 h => ?_
  cases r2 with
  | non => exact .inl ⟨rfl, by rw [← isNon_ok r1]; exact po_v h rp (.bl _)⟩
  | bl b => cases r1 with
    | bl a => exact .inr ⟨a, b, rfl, rfl, po_v h rp (.bl _)⟩
    | _ => exact (show False from h).elim
  | _ => exact (show False from h).elim
theorem i_isN : OpI G X (compareOp .IsNot) gIsN := by
  refine opI_of (OpR.or op_notN op_notBl) fun p ρ s H x y v u Q rp r1 r2 h => ?_
  cases r2 with
  | non => exact .inl ⟨rfl, by rw [← isNon_ok r1]; exact po_v h rp (.bl _)⟩
  | bl b => cases r1 with
    | bl a => exact .inr ⟨a, b, rfl, rfl, po_v h rp (.bl _)⟩
    | _ => exact (show False from h).elim
  | _ => exact (show False from h).elim
end
end CC
set_option Elab.async false
set_option linter.all false
set_option maxRecDepth 100000
/-! CCPrim2: values as data: equality, in, repr -/
namespace CC
open PySem PySem.Spec PyProof.Rows L2

/-! ### values as data -/
def mapO {α β : Type} (f : α → Option β) : List α → Option (List β)
  | [] => some []
  | a :: r => match f a with
    | none => none
    | some b => (match mapO f r with
      | none => none
      | some q => some (b :: q))
def datW (p : Hh) (s : S) : Nat → W → Option PyData
  | _, .non => some .none
  | _, .bl b => some (.bool b)
  | _, .int i => some (.int i)
  | _, .str z => some (.str z)
  | f + 1, .tup ws => (match mapO (datW p s f) ws with | some ds => some (.tuple ds) | none => none)
  | f + 1, .ref n => match rd p s n with
    | some (.lst ws) => (match mapO (datW p s f) ws with | some ds => some (.list ds) | none => none)
    | some (.frz ns) => some (.list (ns.map .int))
    | some (.dct []) => some (.dict [])
    | _ => none
  | _, _ => none
def dat (p : Hh) (s : S) (w : W) : Option PyData := datW p s 12 w
mutual
/-- no list within -/
def noLst : PyData → Bool
  | .list _ => false
  | .tuple ds => noLsts ds
  | .none => true
  | .bool _ => true
  | .int _ => true
  | .str _ => true
  | .dict _ => true
def noLsts : List PyData → Bool
  | [] => true
  | d :: r => noLst d && noLsts r
end
/-- == -/
def gEqD (p : Hh) (x y : W) (s : S) : Option Bool := match dat p s x, dat p s y with
  | some d, some e => if SeqAt.shaped d && SeqAt.shaped e then some (PyData.eqv d e) else none
  | _, _ => none
def gEqB (p : Hh) (x y : W) (s : S) : Option Bool := match x with
  | .int i => (match y with
    | .int j => some (decide (i = j))
    | _ => gEqD p x y s)
  | _ => gEqD p x y s
def gEq (p : Hh) (x y : W) (s : S) : O2 := match gEqB p x y s with
  | some b => some (.bl b, s)
  | none => none
def gNe (p : Hh) (x y : W) (s : S) : O2 := match gEqB p x y s with
  | some b => some (.bl (!b), s)
  | none => none
/-- repr -/
def fRepr (p : Hh) (xs : List W) (s : S) : O2 := match xs with
  | [x] => (match dat p s x with
    | some d => if d.showable && (!d.hasDict || noLst d) && decide (d.depth ≤ 40) && decide (d.shown.length ≤ 1000000) then some (.str d.shown, s) else none
    | none => none)
  | _ => none
/-- in -/
def gInB (p : Hh) (x y : W) (s : S) : Option Bool := match dat p s x, dat p s y with
  | some d, some (.list ds) => if SeqAt.shaped d && SeqAt.shaped (.list ds) then some (ds.any fun z => PyData.eqv z d) else none
  | some d, some (.tuple ds) => if SeqAt.shaped d && SeqAt.shaped (.tuple ds) then some (ds.any fun z => PyData.eqv z d) else none
  | _, _ => none
def gIn (p : Hh) (x y : W) (s : S) : O2 := match gInB p x y s with
  | some b => some (.bl b, s)
  | none => none
def gNotIn (p : Hh) (x y : W) (s : S) : O2 := match gInB p x y s with
  | some b => some (.bl (!b), s)
  | none => none
section
variable {G : GE} {X : Cx} {ρ : List Addr} {H : Hp} {p : Hh} {s : S} {pins : List (Addr × Obj)} {σ : L2.St} {sh : Shared}
theorem ns_reads {h : Heap} : ∀ {ns : List Int} {us : List Value}, Vals (ns.map V.int) us → ReadsAll h us (ns.map .int) []
  | [], _, r => by cases r; exact .nil
  | i :: ns, _, r => by
    cases r with
    | cons r1 r2 =>
      obtain ⟨t, rfl⟩ := r1
      exact .cons (.int i t) (ns_reads r2)
theorem reads_all {f : W → Option PyData} (hf : ∀ w v u d, f w = some d → RV G ρ H w v → RelV v u → ∃ as, Reads sh.heap u d as ∧ (noLst d = true → sysModules ∉ as)) :
    ∀ {ws : List W} {vs : List V} {us : List Value} {ds : List PyData}, mapO f ws = some ds → RVs G ρ H ws vs → Vals vs us → ∃ as, ReadsAll sh.heap us ds as ∧ (noLsts ds = true → sysModules ∉ as)
  | [], _, us, ds, h, r, rv => by
    simp only [mapO] at h
    cases h; cases r; cases rv
    exact ⟨_, .nil, fun _ m => by cases m⟩
  | w :: ws, _, us, ds, h, r, rv => by
    simp only [mapO] at h
    cases r with
    | cons r1 r2 =>
      cases rv with
      | cons v1 v2 =>
        cases q : f w with
        | none => rw [q] at h; cases h
        | some d =>
          rw [q] at h
          dsimp only at h
          cases q2 : mapO f ws with
          | none => rw [q2] at h; cases h
          | some ds' =>
            rw [q2] at h
            cases h
            obtain ⟨as, a1, a2⟩ := hf w _ _ d q r1 v1
            obtain ⟨bs, b1, b2⟩ := reads_all hf q2 r2 v2
            refine ⟨_, .cons a1 b1, fun z m => ?_⟩
            simp only [noLsts, Bool.and_eq_true] at z
            exact (List.mem_append.mp m).elim (a2 z.1) (b2 z.2)
theorem reads_w (I : Inv X pins σ H sh) (rp : Rep G ρ p s H) : ∀ (f : Nat) (w : W) (v : V) (u : Value) (d : PyData), datW p s f w = some d → RV G ρ H w v → RelV v u → ∃ as, Reads sh.heap u d as ∧ (noLst d = true → sysModules ∉ as)
  | f, .non, v, u, d, h, r, ru => by
    have h : some PyData.none = some d := by cases f <;> exact h
    cases h; cases r; cases ru
    exact ⟨_, .none, fun _ m => by cases m⟩
  | f, .bl b, v, u, d, h, r, ru => by
    have h : some (PyData.bool b) = some d := by cases f <;> exact h
    cases h; cases r; cases ru
    exact ⟨_, .bool b, fun _ m => by cases m⟩
  | f, .int i, v, u, d, h, r, ru => by
    have h : some (PyData.int i) = some d := by cases f <;> exact h
    cases h; cases r
    obtain ⟨t, rfl⟩ := ru
    exact ⟨_, .int i t, fun _ m => by cases m⟩
  | f, .str z, v, u, d, h, r, ru => by
    have h : some (PyData.str z) = some d := by cases f <;> exact h
    cases h; cases r
    obtain ⟨t, rfl⟩ := ru
    exact ⟨_, .str z t, fun _ m => by cases m⟩
  | 0, .tup ws, v, u, d, h, r, ru => by cases h
  | 0, .ref n, v, u, d, h, r, ru => by cases h
  | f + 1, .tup ws, v, u, d, h, r, ru => by
    simp only [datW] at h
    cases q : mapO (datW p s f) ws with
    | none => rw [q] at h; cases h
    | some ds =>
      rw [q] at h
      cases h
      cases r with
      | @tup a _ vs na ha r =>
        cases ru
        obtain ⟨its, rv, ⟨o, ho, hc, n, hd⟩, _⟩ := I.tuple (xs := vs) (SqT.of ha)
        obtain ⟨as, a1, a2⟩ := reads_all (reads_w I rp f) q r rv
        exact ⟨_, .tuple ho hc hd a1, a2⟩
  | f + 1, .ref n, v, u, d, h, r, ru => by
    simp only [datW] at h
    cases r with
    | @ref _ a e =>
      cases ru
      cases q : rd p s n with
      | none => rw [q] at h; cases h
      | some o =>
        obtain ⟨hu, hh, ro⟩ := rp.at q e
        rw [q] at h
        cases ro with
        | @lst ws vs r =>
          dsimp only at h
          cases q2 : mapO (datW p s f) ws with
          | none => rw [q2] at h; cases h
          | some ds =>
            rw [q2] at h
            cases h
            obtain ⟨its, rv, ⟨o, n, ho, hc, _, hd⟩, _⟩ := I.list (xs := vs) (SqL.of hh)
            obtain ⟨as, a1, a2⟩ := reads_all (reads_w I rp f) q2 r rv
            exact ⟨_, .list ho hc hd a1, fun z => nomatch z⟩
        | @frz ns o =>
          cases h
          obtain ⟨its, rv, ⟨o, n, ho, hc, _, hd⟩, _⟩ := I.list (xs := ns.map V.int) (.inl (.inr ⟨o, hh⟩))
          exact ⟨_, .list ho hc hd (ns_reads rv), fun z => nomatch z⟩
        | @dK kvs ks r r2 =>
          cases kvs with
          | cons _ _ => cases h
          | nil =>
            cases h
            have e1 : ks = [] := by
              cases ks with
              | nil => rfl
              | cons _ _ => cases r
            subst e1
            obtain ⟨_, hsm, vs, rel, o, es, ep, h1, h2, h3, h4, h5, h6⟩ := (show ObjOk X.prog X.w H sh.heap a (.dK []) from I.hok a _ hh)
            cases rel
            have e2 : es.toList = [] := by
              cases q3 : es.toList with
              | nil => rfl
              | cons _ _ => rw [q3] at h5; cases h5
            refine ⟨_, .dict h1 h2.1 h3 (by rw [e2]; exact .nil) (by rw [e2]; exact .nil), fun _ m => ?_⟩
            rcases List.mem_append.mp m with m | m
            · rcases List.mem_cons.mp m with m | m
              · rw [← m] at hsm
                exact absurd (beq_self_eq_true sysModules) (by rw [hsm]; exact Bool.false_ne_true)
              · cases m
            · cases m
        | dT _ _ => cases h
        | ins _ _ => cases h
theorem eqD_ok (hu : X.A.units + 64 < cLine) (I : Inv X pins σ H sh) (rp : Rep G ρ p s H) {x y : W} {v u : V} {v' u' : Value} {b : Bool} (e : gEqD p x y s = some b) (r1 : RV G ρ H x v) (r2 : RV G ρ H y u) (rv : RelV v v') (ru : RelV u u') :
    (∀ {Q E : Value → Shared → Prop}, Q (.bool b) sh → wpAny (model X.prog X.w) X.A (compareOp .Eq v' u') Q E sh) ∧ (∀ {Q E : Value → Shared → Prop}, Q (.bool (!b)) sh → wpAny (model X.prog X.w) X.A (compareOp .NotEq v' u') Q E sh) := by
  unfold gEqD at e
  cases d1 : dat p s x with
  | none => rw [d1] at e; cases e
  | some d =>
    cases d2 : dat p s y with
    | none => rw [d1, d2] at e; cases e
    | some d' =>
      rw [d1, d2] at e
      dsimp only at e
      split at e
      · rename_i hs
        obtain ⟨s1, s2⟩ := Bool.and_eq_true_iff.mp hs
        cases e
        obtain ⟨as, a1, _⟩ := reads_w I rp _ _ _ _ _ d1 r1 rv
        obtain ⟨bs, b1, _⟩ := reads_w I rp _ _ _ _ _ d2 r2 ru
        exact ⟨fun q => SeqAt.compareEq_shaped a1 b1 s1 s2 hu q, fun q => SeqAt.compareNe_shaped a1 b1 s1 s2 hu q⟩
      · cases e
theorem eqB_cases {x y : W} {b : Bool} (e : gEqB p x y s = some b) : gEqD p x y s = some b ∨ ∃ i j, x = .int i ∧ y = .int j ∧ b = decide (i = j) := by
  unfold gEqB at e
  cases x with
  | int i => cases y with
    | int j => cases e; exact .inr ⟨i, j, rfl, rfl, rfl⟩
    | _ => exact .inl e
  | _ => exact .inl e
theorem i_eq (hu : X.A.units + 64 < cLine) : OpI G X (compareOp .Eq) gEq := by
  intro p pins s σ H v u v' u' Q I rv ru ⟨ρ, s0, x, y, rp, r1, r2, q⟩
  unfold gEq at q
  cases e : gEqB p x y s0 with
  | none => rw [e] at q; exact q.elim
  | some b =>
    rw [e] at q
    rcases eqB_cases e with e | ⟨i, j, rfl, rfl, rfl⟩
    · exact (eqD_ok hu I rp e r1 r2 rv ru).1 ⟨.bl _, H, I, rfl, po_v q rp (.bl _)⟩
    · cases r1; cases r2
      have z := po_v q rp (.bl _)
      refine op_eq pins s σ H _ _ v' u' Q I rv ru ⟨rfl, ?_⟩
      rw [dec_int]
      exact z
theorem i_ne (hu : X.A.units + 64 < cLine) : OpI G X (compareOp .NotEq) gNe := by
  intro p pins s σ H v u v' u' Q I rv ru ⟨ρ, s0, x, y, rp, r1, r2, q⟩
  unfold gNe at q
  cases e : gEqB p x y s0 with
  | none => rw [e] at q; exact q.elim
  | some b =>
    rw [e] at q
    rcases eqB_cases e with e | ⟨i, j, rfl, rfl, rfl⟩
    · exact (eqD_ok hu I rp e r1 r2 rv ru).2 ⟨.bl _, H, I, rfl, po_v q rp (.bl _)⟩
    · cases r1; cases r2
      have z := po_v q rp (.bl _)
      refine op_ne pins s σ H _ _ v' u' Q I rv ru ⟨rfl, ?_⟩
      rw [dec_int]
      exact z
theorem inB_ok (hu : X.A.units + 65 < cLine) (I : Inv X pins σ H sh) (rp : Rep G ρ p s H) {x y : W} {v u : V} {v' u' : Value} {b : Bool} (e : gInB p x y s = some b) (r1 : RV G ρ H x v) (r2 : RV G ρ H y u) (rv : RelV v v') (ru : RelV u u') :
    (∀ {Q E : Value → Shared → Prop}, Q (.bool b) sh → wpAny (model X.prog X.w) X.A (compareOp .In v' u') Q E sh) ∧ (∀ {Q E : Value → Shared → Prop}, Q (.bool (!b)) sh → wpAny (model X.prog X.w) X.A (compareOp .NotIn v' u') Q E sh) := by
  unfold gInB at e
  cases d1 : dat p s x with
  | none => rw [d1] at e; cases e
  | some d =>
    cases d2 : dat p s y with
    | none => rw [d1, d2] at e; cases e
    | some d' =>
      rw [d1, d2] at e
      obtain ⟨as, a1, _⟩ := reads_w I rp _ _ _ _ _ d1 r1 rv
      obtain ⟨bs, b1, _⟩ := reads_w I rp _ _ _ _ _ d2 r2 ru
      cases d' with
      | list ds =>
        dsimp only at e
        split at e
        · rename_i hs
          obtain ⟨s1, s2⟩ := Bool.and_eq_true_iff.mp hs
          cases e
          exact ⟨fun q => SeqAt.in_list_reads b1 a1 (SeqAt.canLay_of_shaped s2) (SeqAt.canLay_of_shaped s1) (room_in_shaped s1 hu) q, fun q => SeqAt.notIn_list_reads b1 a1 (SeqAt.canLay_of_shaped s2) (SeqAt.canLay_of_shaped s1) (room_in_shaped s1 hu) q⟩
        · cases e
      | tuple ds =>
        dsimp only at e
        split at e
        · rename_i hs
          obtain ⟨s1, s2⟩ := Bool.and_eq_true_iff.mp hs
          cases e
          exact ⟨fun q => SeqAt.in_tuple_reads b1 a1 (SeqAt.canLay_of_shaped s2) (SeqAt.canLay_of_shaped s1) (room_in_shaped s1 hu) q, fun q => SeqAt.notIn_tuple_reads b1 a1 (SeqAt.canLay_of_shaped s2) (SeqAt.canLay_of_shaped s1) (room_in_shaped s1 hu) q⟩
        · cases e
      | _ => cases e
theorem i_in (hu : X.A.units + 65 < cLine) : OpI G X (compareOp .In) gIn := by
  intro p pins s σ H v u v' u' Q I rv ru ⟨ρ, s0, x, y, rp, r1, r2, q⟩
  unfold gIn at q
  cases e : gInB p x y s0 with
  | none => rw [e] at q; exact q.elim
  | some b =>
    rw [e] at q
    exact (inB_ok hu I rp e r1 r2 rv ru).1 ⟨.bl _, H, I, rfl, po_v q rp (.bl _)⟩
theorem i_notIn (hu : X.A.units + 65 < cLine) : OpI G X (compareOp .NotIn) gNotIn := by
  intro p pins s σ H v u v' u' Q I rv ru ⟨ρ, s0, x, y, rp, r1, r2, q⟩
  unfold gNotIn at q
  cases e : gInB p x y s0 with
  | none => rw [e] at q; exact q.elim
  | some b =>
    rw [e] at q
    exact (inB_ok hu I rp e r1 r2 rv ru).2 ⟨.bl _, H, I, rfl, po_v q rp (.bl _)⟩
theorem c_repr (hg : X.A.guards = some []) (hu : X.A.units + 64 < cLine) : CallI G X (.builtin "repr") fRepr := by
  intro p pins s σ H vs us Q I rv ⟨ρ, s0, xs, rp, r1, q⟩
  unfold fRepr at q
  match xs, vs, us, r1, rv with
  | [], _, _, _, _ => exact q.elim
  | _ :: _ :: _, _, _, _, _ => exact q.elim
  | [x], [v], [u], .cons r1 .nil, .cons r2 .nil =>
    dsimp only at q
    cases d1 : dat p s0 x with
    | none => rw [d1] at q; exact q.elim
    | some d =>
      rw [d1] at q
      dsimp only at q
      split at q
      · rename_i hc
        obtain ⟨hc, h3⟩ := Bool.and_eq_true_iff.mp hc
        obtain ⟨hc, h2⟩ := Bool.and_eq_true_iff.mp hc
        obtain ⟨h1, h4⟩ := Bool.and_eq_true_iff.mp hc
        have h2 := of_decide_eq_true h2
        have h3 := million (of_decide_eq_true h3)
        have qq := po_v q rp (.str _)
        obtain ⟨as, a1, a2⟩ := reads_w I rp _ _ _ _ _ d1 r1 r2
        have rf : ∀ a, u = .ref a → wpAny (model X.prog X.w) X.A (call (.builtin "repr") [u]) (EP X pins σ Q) X.xe s := fun a e => by
          subst e
          refine repr_of_reads' (h₀ := s.heap) a1 h1 (fun z => a2 (by rw [z] at h4; exact h4)) hg (by have := h2; omega) (fun _ _ h => h) (fun h' u tk hk => ⟨.str _, H, I.kept hk, ⟨_, rfl⟩, qq⟩) h3
        cases a1 with
        | none => exact P.repr_of_none ⟨.str _, H, I.tok _, ⟨_, rfl⟩, qq⟩
        | bool b => exact P.repr_of_bool ⟨.str _, H, I.tok _, ⟨_, rfl⟩, qq⟩
        | int i t => exact P.repr_of_int (of_decide_eq_true h1) ⟨.str _, H, I.tok _, ⟨_, rfl⟩, qq⟩
        | str z t => exact P.repr_of_str ⟨.str _, H, I.tok _, ⟨_, rfl⟩, qq⟩ h3
        | list g1 g2 g3 g4 => exact rf _ rfl
        | tuple g1 g2 g3 g4 => exact rf _ rfl
        | dict g1 g2 g3 g4 g5 => exact rf _ rfl
      · exact q.elim
end
end CC
set_option Elab.async false
set_option linter.all false
set_option maxRecDepth 100000
/-! CCPrim3: built-ins by call, isinstance, subscripts, slices, methods of lists -/
namespace CC
open PySem PySem.Spec PyProof.Rows L2

def seqItems (p : Hh) (s : S) : W → Option (List W)
  | .tup ws => some ws
  | .ref n => cellItems p s n
  | _ => none
def fLen (p : Hh) (xs : List W) (s : S) : O2 := match xs with
  | [.str z] => if z.length ≤ 1000000 then some (.int z.length, s) else none
  | [w] => (match seqItems p s w with
    | some ws => some (.int ws.length, s)
    | none => none)
  | _ => none
def fList (p : Hh) (xs : List W) (s : S) : O2 := match xs with
  | [w] => (match seqItems p s w with
    | some ws => some (.ref (nxt p s), al s (.lst ws))
    | none => none)
  | _ => none
def fTuple (p : Hh) (xs : List W) (s : S) : O2 := match xs with
  | [w] => (match seqItems p s w with
    | some ws => some (.tup ws, s)
    | none => none)
  | _ => none
def fAbs (p : Hh) (xs : List W) (s : S) : O2 := match xs with
  | [.int i] => some (.int (if i < 0 then -i else i), s)
  | _ => none
def fMax2 (p : Hh) (xs : List W) (s : S) : O2 := match xs with
  | [.int i, .int j] => some (.int (if j > i then j else i), s)
  | _ => none
def fMin2 (p : Hh) (xs : List W) (s : S) : O2 := match xs with
  | [.int i, .int j] => some (.int (if j < i then j else i), s)
  | _ => none
def fInt (p : Hh) (xs : List W) (s : S) : O2 := match xs with
  | [.int i] => some (.int i, s)
  | [.bl b] => some (.int (if b then 1 else 0), s)
  | _ => none
def isBls : List W → Option (List Bool)
  | [] => some []
  | .bl b :: r => (match isBls r with | some q => some (b :: q) | none => none)
  | _ => none
def cellL (p : Hh) (s : S) : W → Option (List W)
  | .ref n => cellItems p s n
  | _ => none
def fSum (p : Hh) (xs : List W) (s : S) : O2 := match xs with
  | [w] => (match cellL p s w with
    | some ws => (match isInts ws with | some ns => some (.int ns.sum, s) | none => none)
    | none => none)
  | _ => none
def fAny (p : Hh) (xs : List W) (s : S) : O2 := match xs with
  | [w] => (match cellL p s w with
    | some ws => (match isBls ws with | some ns => some (.bl (ns.any id), s) | none => none)
    | none => none)
  | _ => none
def fAll (p : Hh) (xs : List W) (s : S) : O2 := match xs with
  | [w] => (match cellL p s w with
    | some ws => (match isBls ws with | some ns => some (.bl (ns.all id), s) | none => none)
    | none => none)
  | _ => none
section
variable {G : GE} {X : Cx} {ρ : List Addr} {H : Hp} {p : Hh} {s : S}
theorem seq_at {K : PySem.W.Frag} {w : W} {v : V} {ws : List W} (rp : Rep G ρ p s H) (r : RV G ρ H w v) (h : seqItems p s w = some ws) : ∃ a vs, v = .ref a ∧ RVs G ρ H ws vs ∧ (SqL K H a vs ∨ (SqT K H a vs ∧ w = .tup ws)) := by
  cases r with
  | @tup a ws' vs na ha r => cases h; exact ⟨a, vs, rfl, r, .inr ⟨SqT.of ha, rfl⟩⟩
  | @ref n a e =>
    obtain ⟨vs, h1, h2⟩ := cell_seq (K := K) rp h e
    exact ⟨a, vs, rfl, h2, .inl h1⟩
  | _ => cases h
theorem cellL_at {K : PySem.W.Frag} {w : W} {v : V} {ws : List W} (rp : Rep G ρ p s H) (r : RV G ρ H w v) (h : cellL p s w = some ws) : ∃ a vs, v = .ref a ∧ RVs G ρ H ws vs ∧ SqL K H a vs := by
  cases r with
  | @ref n a e =>
    obtain ⟨vs, h1, h2⟩ := cell_seq (K := K) rp h e
    exact ⟨a, vs, rfl, h2, h1⟩
  | _ => cases h
theorem c_len : CallI G X (.builtin "len") fLen := by
  refine callI_of (CallR.or call_len_seq call_len_str) fun p ρ s H xs vs Q rp r h => ?_
  match xs, vs, r, h with
  | [], _, _, h => exact h.elim
  | _ :: _ :: _, _, _, h => exact (by unfold fLen at h; split at h <;> first | exact h.elim | simp_all)
  | [w], [v], .cons r1 .nil, h =>
    unfold fLen at h
    split at h
    · rename_i z e
      cases e
      cases r1
      split at h
      · rename_i hl
        exact .inr ⟨z, rfl, million hl, po_v h rp (.int _)⟩
      · exact h.elim
    · rename_i w' _ e
      cases e
      split at h
      · rename_i ws e
        obtain ⟨a, vs, rfl, r2, r3⟩ := seq_at (K := X.K) rp r1 e
        have q := po_v h rp (.int _)
        rw [r2.len] at q
        exact .inl ⟨a, vs, rfl, r3.imp id (·.1), q⟩
      · exact h.elim
    · exact h.elim
theorem c_list : CallI G X (.type "list") fList := by
  refine callI_of call_list_of fun p ρ s H xs vs Q rp r h => ?_
  match xs, vs, r, h with
  | [], _, _, h => exact h.elim
  | _ :: _ :: _, _, _, h => exact h.elim
  | [w], [v], .cons r1 .nil, h =>
    unfold fList at h
    dsimp only at h
    split at h
    · rename_i ws e
      obtain ⟨a, vs, rfl, r2, r3⟩ := seq_at (K := X.K) rp r1 e
      exact ⟨a, vs, rfl, r3.imp id (·.1), fun l hl => po_lst rp r2 h hl⟩
    · exact h.elim
theorem c_tuple : CallI G X (.type "tuple") fTuple := by
  refine callI_of call_tuple_of fun p ρ s H xs vs Q rp r h => ?_
  match xs, vs, r, h with
  | [], _, _, h => exact h.elim
  | _ :: _ :: _, _, _, h => exact h.elim
  | [w], [v], .cons r1 .nil, h =>
    unfold fTuple at h
    dsimp only at h
    split at h
    · rename_i ws e
      obtain ⟨a, vs, rfl, r2, r3⟩ := seq_at (K := X.K) rp r1 e
      refine ⟨a, vs, rfl, ?_⟩
      rcases r3 with r3 | ⟨r3, e2⟩
      · exact .inl ⟨r3, fun l hl => po_tup rp r2 h hl⟩
      · subst e2
        exact .inr ⟨r3, po_v h rp r1⟩
    · exact h.elim
theorem c_abs : CallI G X (.builtin "abs") fAbs := by
  refine callI_of call_abs fun p ρ s H xs vs Q rp r h => ?_
  unfold fAbs at h
  split at h
  · cases r with | cons r1 r2 => cases r1; cases r2; exact ⟨_, rfl, po_v h rp (.int _)⟩
  · exact h.elim
theorem c_max2 (hc : X.calm = true) : CallI G X (.builtin "max") fMax2 := by
  refine callI_of (call_max2 hc) fun p ρ s H xs vs Q rp r h => ?_
  unfold fMax2 at h
  split at h
  · cases r with | cons r1 r2 => cases r1; cases r2 with | cons r2 r3 => cases r2; cases r3; exact ⟨_, _, rfl, po_v h rp (.int _)⟩
  · exact h.elim
theorem c_min2 (hc : X.calm = true) : CallI G X (.builtin "min") fMin2 := by
  refine callI_of (call_min2 hc) fun p ρ s H xs vs Q rp r h => ?_
  unfold fMin2 at h
  split at h
  · cases r with | cons r1 r2 => cases r1; cases r2 with | cons r2 r3 => cases r2; cases r3; exact ⟨_, _, rfl, po_v h rp (.int _)⟩
  · exact h.elim
theorem c_int : CallI G X (.type "int") fInt := by
  refine callI_of call_int1 fun p ρ s H xs vs Q rp r h => ?_
  unfold fInt at h
  split at h
  · cases r with | cons r1 r2 => cases r1; cases r2; exact .inl ⟨_, rfl, po_v h rp (.int _)⟩
  · cases r with | cons r1 r2 => cases r1; cases r2; exact .inr ⟨_, rfl, po_v h rp (.int _)⟩
  · exact h.elim
theorem isBls_ok {ρ : List Addr} {H : Hp} : ∀ {ws : List W} {vs : List V} {ns : List Bool}, isBls ws = some ns → RVs G ρ H ws vs → vs = ns.map V.bl
  | [], _, ns, h, r => by simp only [isBls] at h; cases h; cases r; rfl
  | w :: ws, _, ns, h, r => by
    cases r with
    | cons r1 r2 =>
      cases r1 with
      | bl i =>
        simp only [isBls] at h
        cases q : isBls ws with
        | none => rw [q] at h; cases h
        | some ms =>
          rw [q] at h
          cases h
          rw [isBls_ok q r2]
          rfl
      | _ => cases h
theorem c_sum (hc : X.calm = true) : CallI G X (.builtin "sum") fSum := by
  refine callI_of (cr_sum hc) fun p ρ s H xs vs Q rp r h => ?_
  match xs, vs, r, h with
  | [], _, _, h => exact h.elim
  | _ :: _ :: _, _, _, h => exact h.elim
  | [w], [v], .cons r1 .nil, h =>
    unfold fSum at h
    dsimp only at h
    split at h
    · rename_i ws e
      obtain ⟨a, vs, rfl, r2, r3⟩ := cellL_at (K := X.K) rp r1 e
      split at h
      · rename_i ns e2
        obtain rfl := isInts_ok e2 r2
        exact ⟨a, ns, rfl, r3, po_v h rp (.int _)⟩
      · exact h.elim
    · exact h.elim
theorem c_any (hc : X.calm = true) : CallI G X (.builtin "any") fAny := by
  refine callI_of (cr_any hc) fun p ρ s H xs vs Q rp r h => ?_
  match xs, vs, r, h with
  | [], _, _, h => exact h.elim
  | _ :: _ :: _, _, _, h => exact h.elim
  | [w], [v], .cons r1 .nil, h =>
    unfold fAny at h
    dsimp only at h
    split at h
    · rename_i ws e
      obtain ⟨a, vs, rfl, r2, r3⟩ := cellL_at (K := X.K) rp r1 e
      split at h
      · rename_i ns e2
        obtain rfl := isBls_ok e2 r2
        exact ⟨a, ns, rfl, r3, po_v h rp (.bl _)⟩
      · exact h.elim
    · exact h.elim
theorem c_all (hc : X.calm = true) : CallI G X (.builtin "all") fAll := by
  refine callI_of (cr_all hc) fun p ρ s H xs vs Q rp r h => ?_
  match xs, vs, r, h with
  | [], _, _, h => exact h.elim
  | _ :: _ :: _, _, _, h => exact h.elim
  | [w], [v], .cons r1 .nil, h =>
    unfold fAll at h
    dsimp only at h
    split at h
    · rename_i ws e
      obtain ⟨a, vs, rfl, r2, r3⟩ := cellL_at (K := X.K) rp r1 e
      split at h
      · rename_i ns e2
        obtain rfl := isBls_ok e2 r2
        exact ⟨a, ns, rfl, r3, po_v h rp (.bl _)⟩
      · exact h.elim
    · exact h.elim
end
end CC
set_option Elab.async false
set_option linter.all false
set_option maxRecDepth 100000
/-! CCIsi: isinstance -/
namespace CC
open PySem PySem.Spec PyProof.Rows L2

inductive TK where
  | non | bl | int | str | lst | tup | dct | own (c : Nat)
def tyW (p : Hh) (s : S) : W → Option TK
  | .non => some .non
  | .bl _ => some .bl
  | .int _ => some .int
  | .str _ => some .str
  | .tup _ => some .tup
  | .ref n => match rd p s n with
    | some (.lst _) => some .lst
    | some (.frz _) => some .lst
    | some (.dct _) => some .dct
    | some (.dtt _) => some .dct
    | some (.ins c _) => some (.own c)
    | none => none
def tyVal (G : GE) : TK → Value
  | .non => .type "NoneType"
  | .bl => .type "bool"
  | .int => .type "int"
  | .str => .type "str"
  | .lst => .type "list"
  | .tup => .type "tuple"
  | .dct => .type "dict"
  | .own c => .ref (G.cls c)
def lkB (c : Nat) : List (Nat × Bool) → Option Bool
  | [] => none
  | (d, b) :: r => if c = d then some b else lkB c r
/-- the answers for a built-in type: the seven kinds, then the classes of the text -/
def qT (a0 a1 a2 a3 a4 a5 a6 : Bool) (ow : List (Nat × Bool)) : TK → Option Bool
  | .non => some a0
  | .bl => some a1
  | .int => some a2
  | .str => some a3
  | .lst => some a4
  | .tup => some a5
  | .dct => some a6
  | .own c => lkB c ow
def qInt := qT false true true false false false false
def qBool := qT false true false false false false false
def qTup := qT false false false false false true false
def qLst := qT false false false false true false false
def qStr := qT false false false true false false false
def qDct := qT false false false false false false true
def qOwn := qT false false false false false false false
def eIsi (p : Hh) (q : TK → Option Bool) (ma : Lo → S → R W) : Lo → S → R W := fun l s => (ma l s).bind fun w s1 => match tyW p s1 w with
  | some t => (match q t with
    | some b => .ok (.bl b) s1
    | none => .bad)
  | none => .bad
/-- what a class of the text must have to be asked for -/
structure CI_ (G : GE) (K : PySem.W.Frag) (c : Nat) : Prop where
  cl : Cls K (G.cls c)
  ha : PySem.W.findIn K (.ref (G.cls c)) "__class__" = some (some (.builtin "object.__class__"))
  hn : PySem.W.specialIn K (.builtin "object.__class__") "__get__" = some (some (.builtin "getset_descriptor.__get__"))
  ht : PySem.W.takesIn K (.builtin "object.__class__") = some true
  hm : PySem.W.mroIn K (G.cls c) (.type "object") = some true
/-- the answers q are those for the class value cv -/
structure QI (G : GE) (K : PySem.W.Frag) (cv : Value) (q : TK → Option Bool) : Prop where
  an : ∀ t b, q t = some b → PySem.W.kitOne K (tyVal G t) cv = some b
  ow : ∀ c b, q (.own c) = some b → CI_ G K c
theorem qi_ty {G : GE} {K : PySem.W.Frag} {T : String} {a0 a1 a2 a3 a4 a5 a6 : Bool} {ow : List (Nat × Bool)} (h0 : kitB "NoneType" T = some a0) (h1 : kitB "bool" T = some a1) (h2 : kitB "int" T = some a2) (h3 : kitB "str" T = some a3) (h4 : kitB "list" T = some a4) (h5 : kitB "tuple" T = some a5) (h6 : kitB "dict" T = some a6)
    (h : ∀ c b, lkB c ow = some b → CI_ G K c ∧ PySem.W.kitOne K (.ref (G.cls c)) (.type T) = some b) : QI G K (.type T) (qT a0 a1 a2 a3 a4 a5 a6 ow) where
  an := fun t b e => by
    cases t with
    | non => cases e; exact kit_ty h0
    | bl => cases e; exact kit_ty h1
    | int => cases e; exact kit_ty h2
    | str => cases e; exact kit_ty h3
    | lst => cases e; exact kit_ty h4
    | tup => cases e; exact kit_ty h5
    | dct => cases e; exact kit_ty h6
    | own c => exact (h c b e).2
  ow := fun c b e => (h c b e).1
section
variable {G : GE} {X : Cx} {ρ : List Addr} {H : Hp} {p : Hh} {s : S} {E : WX}
theorem ty_of {cv : Value} {q : TK → Option Bool} {K : PySem.W.Frag} (F : QI G K cv q) {w : W} {v : V} {t : TK} {b : Bool} (rp : Rep G ρ p s H) (r : RV G ρ H w v) (h : tyW p s w = some t) (hq : q t = some b) : TyX K H v (tyVal G t) := by
  cases r with
  | non => cases h; exact .base .non
  | bl b => cases h; exact .base (.bl _)
  | int i => cases h; exact .base (.int _)
  | str z => cases h; exact .base (.str _)
  | @tup a ws vs na ha r => cases h; exact .base (.tup ha)
  | @ref n a e =>
    simp only [tyW] at h
    cases z : rd p s n with
    | none => rw [z] at h; cases h
    | some o =>
      rw [z] at h
      obtain ⟨u, hu, ro⟩ := rp.at z e
      cases ro with
      | lst r => cases h; exact .base (.lst hu)
      | frz => cases h; exact .base (.frz hu)
      | dK r r2 => cases h; exact .base (.dK hu)
      | dT r r2 => cases h; exact .base (.dT hu)
      | @ins c fs gs dx k r =>
        cases h
        have C := F.ow c b hq
        exact .base (.ins hu C.cl C.ha C.hn C.ht C.hm)
variable {a tn : Expr} {ma : Lo → S → R W} {pos p' : Pos}
theorem se_isi {q : TK → Option Bool} {c : V} {cv : Value} (F : QI G X.K cv q) (hcv : ClsV c cv) (hm : X.mg "isinstance" = none) (ha : SE G p E X a ma) (ht : PE X tn (tC c)) (hg : Gl X "isinstance" := by rfl)
    (hs : starEach (a :: [tn]) X.env = (false, eval a X.env) :: starEach [tn] X.env := by rfl) (hs2 : starEach (tn :: []) X.env = (false, eval tn X.env) :: starEach [] X.env := by rfl)
    (hpl : (backTo pos (starEach [tn] X.env)).any (·.1) = false := by rfl) : SE G p E X (.Call (.Name "isinstance" p') [a, tn] [] pos) (eIsi p q ma) :=
  PE_imp (pe_callB (x := "isinstance") call_isi hg hm (by decide +kernel) (pa_cons ha (pa_cons ht pa_nil hs2) hs) (by decide) (by decide) hs hpl) fun σ H Q ⟨ρ, l, s, rl, rp, h⟩ => by
    unfold eIsi at h
    refine ⟨ρ, l, s, rl, rp, PoA.bind h fun w s1 ρ1 H1 v x1 rp1 rv1 h1 => ?_⟩
    cases z : tyW p s1 w with
    | none => rw [z] at h1; exact h1.elim
    | some t =>
      rw [z] at h1
      dsimp only at h1
      cases z2 : q t with
      | none => rw [z2] at h1; exact h1.elim
      | some b =>
        rw [z2] at h1
        exact ⟨v, c, tyVal G t, cv, b, rfl, hcv, ty_of F rp1 rv1 z z2, F.an t b z2, h1 ρ1 H1 _ Ex.rfl' rp1 (.bl b)⟩
theorem se_isiT {q : TK → Option Bool} {T : String} {x : Str} {q' : Pos} (F : QI G X.K (.type T) q) (hm : X.mg "isinstance" = none) (hmx : X.mg x = none) (ha : SE G p E X a ma) (hv : bootBuiltins x = some (.type T) := by decide +kernel) (hg2 : Gl X x := by rfl) (hn : x ≠ "__name__" := by decide) (hdb : (x == ("__debug__" : Str)) = false := by decide) (hg : Gl X "isinstance" := by rfl)
    (hs : starEach (a :: [.Name x q']) X.env = (false, eval a X.env) :: starEach [.Name x q'] X.env := by rfl) (hs2 : starEach (.Name x q' :: []) X.env = (false, eval (.Name x q') X.env) :: starEach [] X.env := by rfl)
    (hpl : (backTo pos (starEach [.Name x q'] X.env)).any (·.1) = false := by rfl) : SE G p E X (.Call (.Name "isinstance" p') [a, .Name x q'] [] pos) (eIsi p q ma) :=
  se_isi F (.ty T) hm ha (pe_bltn hg2 hmx hv rfl hn hdb) hg hs hs2 hpl
theorem se_isiC {q : TK → Option Bool} {C : Addr} {x : Str} {q' : Pos} (F : QI G X.K (.ref C) q) (hm : X.mg "isinstance" = none) (hmx : X.mg x = some (.ref C)) (ha : SE G p E X a ma) (hg2 : Gl X x := by rfl) (hdb : (x == ("__debug__" : Str)) = false := by decide) (hg : Gl X "isinstance" := by rfl)
    (hs : starEach (a :: [.Name x q']) X.env = (false, eval a X.env) :: starEach [.Name x q'] X.env := by rfl) (hs2 : starEach (.Name x q' :: []) X.env = (false, eval (.Name x q') X.env) :: starEach [] X.env := by rfl)
    (hpl : (backTo pos (starEach [.Name x q'] X.env)).any (·.1) = false := by rfl) : SE G p E X (.Call (.Name "isinstance" p') [a, .Name x q'] [] pos) (eIsi p q ma) :=
  se_isi F (.own C) hm ha (pe_glob hg2 hmx rfl hdb) hg hs hs2 hpl
end
section
variable {G : GE} {K : PySem.W.Frag}
theorem q_int : QI G K (.type "int") (qInt []) := qi_ty (by decide +kernel) (by decide +kernel) (by decide +kernel) (by decide +kernel) (by decide +kernel) (by decide +kernel) (by decide +kernel) fun c b e => nomatch e
theorem q_bool : QI G K (.type "bool") (qBool []) := qi_ty (by decide +kernel) (by decide +kernel) (by decide +kernel) (by decide +kernel) (by decide +kernel) (by decide +kernel) (by decide +kernel) fun c b e => nomatch e
theorem q_tup : QI G K (.type "tuple") (qTup []) := qi_ty (by decide +kernel) (by decide +kernel) (by decide +kernel) (by decide +kernel) (by decide +kernel) (by decide +kernel) (by decide +kernel) fun c b e => nomatch e
theorem q_lst : QI G K (.type "list") (qLst []) := qi_ty (by decide +kernel) (by decide +kernel) (by decide +kernel) (by decide +kernel) (by decide +kernel) (by decide +kernel) (by decide +kernel) fun c b e => nomatch e
theorem q_str : QI G K (.type "str") (qStr []) := qi_ty (by decide +kernel) (by decide +kernel) (by decide +kernel) (by decide +kernel) (by decide +kernel) (by decide +kernel) (by decide +kernel) fun c b e => nomatch e
end
end CC
set_option Elab.async false
set_option linter.all false
set_option maxRecDepth 100000
/-! CCSub: subscripts, slices, dicts, methods of built-in types -/
namespace CC
open PySem PySem.Spec PyProof.Rows L2

def keyW : W → Option Key
  | .int i => some (.inl i)
  | .str z => some (.inr z)
  | _ => none
def keysW : W → Option (List Key)
  | .tup ws => mapO keyW ws
  | _ => none
section
variable {κ : Type} [DecidableEq κ]
def valW (k : κ) : List (κ × W) → Option W
  | [] => none
  | (j, w) :: r => if j = k then some w else valW k r
def setW (k : κ) (w : W) : List (κ × W) → List (κ × W)
  | [] => []
  | (j, u) :: r => if j = k then (j, w) :: setW k w r else (j, u) :: setW k w r
def hasW (k : κ) : List (κ × W) → Bool
  | [] => false
  | (j, _) :: r => if j = k then true else hasW k r
def putKW (kvs : List (κ × W)) (k : κ) (w : W) : List (κ × W) := if hasW k kvs then setW k w kvs else kvs ++ [(k, w)]
def dropW (k : κ) : List (κ × W) → List (κ × W)
  | [] => []
  | (j, u) :: r => if j = k then dropW k r else (j, u) :: dropW k r
section
variable {G : GE} {ρ : List Addr} {H : Hp}
theorem valW_ok {k : κ} : ∀ {kvs : List (κ × W)} {ks : List (κ × V)}, kvs.map (·.1) = ks.map (·.1) → RVs G ρ H (kvs.map (·.2)) (ks.map (·.2)) → (valW k kvs = none → valV ks k = none) ∧ ∀ w, valW k kvs = some w → ∃ v, valV ks k = some v ∧ RV G ρ H w v
  | [], [], _, _ => ⟨fun _ => rfl, fun w h => nomatch h⟩
  | [], _ :: _, h, _ => by simp at h
  | _ :: _, [], h, _ => by simp at h
  | (j, w) :: r, (j', v) :: r', h, q => by
    simp only [List.map_cons, List.cons.injEq] at h
    obtain ⟨rfl, h⟩ := h
    cases q with
    | cons q1 q2 =>
      simp only [valW]
      by_cases e : j = k
      · rw [if_pos e, valV_pos (p := (j, v)) e]
        exact ⟨(fun z => nomatch z), fun w' z => by cases z; exact ⟨v, rfl, q1⟩⟩
      · rw [if_neg e, valV_neg (p := (j, v)) e]
        exact valW_ok h q2
theorem hasW_ok {k : κ} : ∀ {kvs : List (κ × W)} {ks : List (κ × V)}, kvs.map (·.1) = ks.map (·.1) → hasW k kvs = ks.any fun kv => decide (kv.1 = k)
  | [], [], _ => rfl
  | [], _ :: _, h => by simp at h
  | _ :: _, [], h => by simp at h
  | (j, w) :: r, (j', v) :: r', h => by
    simp only [List.map_cons, List.cons.injEq] at h
    obtain ⟨rfl, h⟩ := h
    simp only [hasW, List.any_cons, hasW_ok h]
    by_cases e : j = k <;> simp [e]
theorem setW_ok {k : κ} {w : W} {v : V} (rv : RV G ρ H w v) : ∀ {kvs : List (κ × W)} {ks : List (κ × V)}, kvs.map (·.1) = ks.map (·.1) → RVs G ρ H (kvs.map (·.2)) (ks.map (·.2)) →
    (setW k w kvs).map (·.1) = (ks.map (fun kv => if kv.1 = k then (kv.1, v) else kv)).map (·.1) ∧ RVs G ρ H ((setW k w kvs).map (·.2)) ((ks.map (fun kv => if kv.1 = k then (kv.1, v) else kv)).map (·.2))
  | [], [], _, _ => ⟨rfl, .nil⟩
  | [], _ :: _, h, _ => by simp at h
  | _ :: _, [], h, _ => by simp at h
  | (j, u) :: r, (j', v') :: r', h, q => by
    simp only [List.map_cons, List.cons.injEq] at h
    obtain ⟨rfl, h⟩ := h
    cases q with
    | cons q1 q2 =>
      obtain ⟨h1, h2⟩ := setW_ok rv h q2
      simp only [setW, List.map_cons]
      by_cases e : j = k
      · rw [if_pos e, if_pos e]
        exact ⟨by rw [List.map_cons, h1], .cons rv h2⟩
      · rw [if_neg e, if_neg e]
        exact ⟨by rw [List.map_cons, h1], .cons q1 h2⟩
theorem putKW_ok {k : κ} {w : W} {v : V} (rv : RV G ρ H w v) {kvs : List (κ × W)} {ks : List (κ × V)} (h : kvs.map (·.1) = ks.map (·.1)) (q : RVs G ρ H (kvs.map (·.2)) (ks.map (·.2))) :
    (putKW kvs k w).map (·.1) = (putK ks k v).map (·.1) ∧ RVs G ρ H ((putKW kvs k w).map (·.2)) ((putK ks k v).map (·.2)) := by
  unfold putKW putK
  rw [hasW_ok h]
  by_cases e : (ks.any fun kv => decide (kv.1 = k)) = true
  · rw [if_pos e, if_pos e]; exact setW_ok rv h q
  · rw [if_neg e, if_neg e]
    refine ⟨by simp [h], ?_⟩
    rw [List.map_append, List.map_append]
    exact q.app (.cons rv .nil)
theorem dropW_ok {k : κ} : ∀ {kvs : List (κ × W)} {ks : List (κ × V)}, kvs.map (·.1) = ks.map (·.1) → RVs G ρ H (kvs.map (·.2)) (ks.map (·.2)) → (dropW k kvs).map (·.1) = (dropK ks k).map (·.1) ∧ RVs G ρ H ((dropW k kvs).map (·.2)) ((dropK ks k).map (·.2))
  | [], [], _, _ => ⟨rfl, .nil⟩
  | [], _ :: _, h, _ => by simp at h
  | _ :: _, [], h, _ => by simp at h
  | (j, u) :: r, (j', v') :: r', h, q => by
    simp only [List.map_cons, List.cons.injEq] at h
    obtain ⟨rfl, h⟩ := h
    cases q with
    | cons q1 q2 =>
      obtain ⟨h1, h2⟩ := dropW_ok (k := k) h q2
      unfold dropK at h1 h2 ⊢
      simp only [dropW]
      by_cases e : j = k
      · rw [if_pos e, List.filter_cons_of_neg (by simp [e])]; exact ⟨h1, h2⟩
      · rw [if_neg e, List.filter_cons_of_pos (by simp [e])]
        exact ⟨by rw [List.map_cons, List.map_cons, h1], .cons q1 h2⟩
end
end
/-! ### o[i] -/
def gDic (p : Hh) (o i : W) (s : S) : Option (Option W) := match o with
  | .ref n => (match rd p s n with
    | some (.dct kvs) => (match keyW i with | some k => some (valW k kvs) | none => none)
    | some (.dtt kvs) => (match keysW i with | some k => some (valW k kvs) | none => none)
    | _ => none)
  | _ => none
def gIx (p : Hh) (o i : W) (s : S) : O2 := match o with
  | .str z => (match i with
    | .int j => if z.length ≤ 1000000 then (match atI z.cps.toList j with | some c => some (.str ⟨#[c]⟩, s) | none => none) else none
    | _ => none)
  | o => (match seqItems p s o with
    | some ws => (match i with
      | .int j => (match atI ws j with | some w => some (w, s) | none => none)
      | _ => none)
    | none => (match gDic p o i s with
      | some (some w) => some (w, s)
      | _ => none))
def eIx (p : Hh) (mo mi : Lo → S → R W) : Lo → S → R W := fun l s => (mo l s).bind fun o s1 => (mi l s1).bind fun i s2 => R.ofO (gIx p o i s2)
section
variable {G : GE} {X : Cx} {ρ : List Addr} {H : Hp} {p : Hh} {s : S} {E : WX} {a b o i : Expr} {ma mb mo mi : Lo → S → R W} {pos : Pos}
theorem atI_rvs {ws : List W} {vs : List V} {j : Int} {w : W} (r : RVs G ρ H ws vs) (h : atI ws j = some w) : ∃ v, atI vs j = some v ∧ RV G ρ H w v := by
  unfold atI at h ⊢
  rw [r.len] at h
  cases e : ixN vs.length j with
  | none => rw [e] at h; cases h
  | some k =>
    rw [e] at h
    exact r.get h
theorem key_ok {w : W} {v : V} {k : Key} (r : RV G ρ H w v) (h : keyW w = some k) : v = kV k := by
  cases r <;> first | (cases h; rfl) | cases h
theorem keyW_all : ∀ {ws : List W} {vs : List V} {ks : List Key}, RVs G ρ H ws vs → mapO keyW ws = some ks → vs = ks.map kV
  | [], _, ks, r, h => by simp only [mapO] at h; cases h; cases r; rfl
  | w :: ws, _, ks, r, h => by
    simp only [mapO] at h
    cases r with
    | cons r1 r2 =>
      cases q : keyW w with
      | none => rw [q] at h; cases h
      | some k =>
        rw [q] at h
        dsimp only at h
        cases q2 : mapO keyW ws with
        | none => rw [q2] at h; cases h
        | some ks' =>
          rw [q2] at h
          cases h
          rw [key_ok r1 q, keyW_all r2 q2]
          rfl
theorem keys_ok {w : W} {v : V} {k : List Key} (r : RV G ρ H w v) (h : keysW w = some k) : ∃ b, v = .ref b ∧ H b = some (.tup (k.map kV)) := by
  cases r with
  | @tup a ws vs na ha r =>
    simp only [keysW] at h
    rw [keyW_all r h] at ha
    exact ⟨a, rfl, ha⟩
  | _ => cases h
theorem dic_at {o i : W} {ov iv : V} {r : Option W} (rp : Rep G ρ p s H) (ro : RV G ρ H o ov) (ri : RV G ρ H i iv) (h : gDic p o i s = some r) : ∃ a r', ov = .ref a ∧ DGet H a iv r' ∧ (r = none → r' = none) ∧ ∀ w, r = some w → ∃ v, r' = some v ∧ RV G ρ H w v := by
  cases ro with
  | @ref n a e =>
    simp only [gDic] at h
    cases z : rd p s n with
    | none => rw [z] at h; cases h
    | some ob =>
      rw [z] at h
      obtain ⟨u, hu, q⟩ := rp.at z e
      cases q with
      | @dK kvs ks q1 q2 =>
        dsimp only at h
        cases z2 : keyW i with
        | none => rw [z2] at h; cases h
        | some k =>
          rw [z2] at h
          cases h
          obtain ⟨h1, h2⟩ := valW_ok (k := k) q1 q2
          rw [key_ok ri z2]
          exact ⟨a, _, rfl, DGet.k hu, h1, h2⟩
      | @dT kvs ks q1 q2 =>
        dsimp only at h
        cases z2 : keysW i with
        | none => rw [z2] at h; cases h
        | some k =>
          rw [z2] at h
          cases h
          obtain ⟨h1, h2⟩ := valW_ok (k := k) q1 q2
          obtain ⟨b, rfl, hb⟩ := keys_ok ri z2
          exact ⟨a, _, rfl, DGet.t hu hb, h1, h2⟩
      | _ => cases h
  | _ => cases h
theorem PE_or {e : Expr} {t t' : TE} (h : PE X e t) (h' : PE X e t') : PE X e (fun σ H Q => t σ H Q ∨ t' σ H Q) := ⟨fun pins s σ H Q I w => w.elim (h.run pins s σ H Q I) (h'.run pins s σ H Q I)⟩
theorem se_ix (hu : X.A.units + 1 < cLine) (ho : SE G p E X a mo) (hi : SE G p E X b mi) (hs : ∀ o i, subscripted b false o i = operate [o, i] (getItem o i) := by intro _ _; rfl) : SE G p E X (.Subscript a b pos) (eIx p mo mi) := by
  refine ⟨fun pins s' σ H Q I ⟨ρ, l, s, rl, rp, h⟩ => ?_⟩
  unfold eIx at h
  refine (PE_or (pe_ix (pos := pos) ix_seq ho hi hs) (pe_dget (pos := pos) hu ho hi hs)).run pins s' σ H Q I ?_
  cases eo : mo l s with
  | bad => rw [eo] at h; exact h.elim
  | exc c w s1 =>
    refine .inl ⟨ρ, l, s, rl, rp, ?_⟩
    rw [eo] at h ⊢
    exact h
  | ok o1 s1 =>
    rw [eo] at h
    simp only [CC.R.bind] at h
    cases ei : mi l s1 with
    | bad => rw [ei] at h; exact h.elim
    | exc c w s2 =>
      refine .inl ⟨ρ, l, s, rl, rp, ?_⟩
      rw [eo]
      refine fun ρ1 H1 v x1 rp1 rv1 => ⟨ρ1, l, s1, rl.mono x1, rp1, ?_⟩
      rw [ei] at h ⊢
      exact PoA.base h x1
    | ok i1 s2 =>
      rw [ei] at h
      dsimp only at h
      have hd : (∃ w, gDic p o1 i1 s2 = some (some w) ∧ gIx p o1 i1 s2 = some (w, s2)) ∨ (∃ z j c, o1 = .str z ∧ i1 = .int j ∧ z.length ≤ 1000000 ∧ atI z.cps.toList j = some c ∧ gIx p o1 i1 s2 = some (.str ⟨#[c]⟩, s2)) ∨ (∃ ws j w, seqItems p s2 o1 = some ws ∧ i1 = .int j ∧ atI ws j = some w ∧ gIx p o1 i1 s2 = some (w, s2)) := by
        cases eg : gIx p o1 i1 s2 with
        | none => rw [eg] at h; exact h.elim
        | some r =>
          unfold gIx at eg
          split at eg
          · split at eg
            · split at eg
              · split at eg
                · rename_i hl _ c ec
                  cases eg
                  exact .inr (.inl ⟨_, _, _, rfl, rfl, hl, ec, rfl⟩)
                · cases eg
              · cases eg
            · cases eg
          · split at eg
            · rename_i ws ew
              split at eg
              · split at eg
                · rename_i w ea
                  cases eg
                  exact .inr (.inr ⟨_, _, _, ew, rfl, ea, rfl⟩)
                · cases eg
              · cases eg
            · split at eg
              · rename_i w ed
                cases eg
                exact .inl ⟨w, ed, rfl⟩
              · cases eg
      rcases hd with ⟨w, ed, eg⟩ | hd
      · refine .inr ⟨ρ, l, s, rl, rp, ?_⟩
        rw [eo]
        refine fun ρ1 H1 v x1 rp1 rv1 => ⟨ρ1, l, s1, rl.mono x1, rp1, ?_⟩
        rw [ei]
        refine fun ρ2 H2 v2 x2 rp2 rv2 => ?_
        obtain ⟨a', r', rfl, g, _, g2⟩ := dic_at rp2 (rv1.mono x2) rv2 ed
        obtain ⟨v3, rfl, rv3⟩ := g2 w rfl
        rw [eg] at h
        exact ⟨a', v3, rfl, g, h ρ2 H2 _ (x1.trans x2) rp2 rv3⟩
      · refine .inl ⟨ρ, l, s, rl, rp, ?_⟩
        rw [eo]
        refine fun ρ1 H1 v x1 rp1 rv1 => ⟨ρ1, l, s1, rl.mono x1, rp1, ?_⟩
        rw [ei]
        refine fun ρ2 H2 v2 x2 rp2 rv2 => ?_
        have rv1 := rv1.mono x2
        rcases hd with ⟨z, j, c, rfl, rfl, hl, ec, eg⟩ | ⟨ws, j, w, ew, rfl, ea, eg⟩
        · cases rv1; cases rv2
          rw [eg] at h
          exact .inr (.inr ⟨z, j, c, rfl, rfl, million hl, ec, h ρ2 H2 _ (x1.trans x2) rp2 (.str _)⟩)
        · obtain ⟨a', vs, rfl, r2, r3⟩ := seq_at (K := X.K) rp2 rv1 ew
          cases rv2
          obtain ⟨v3, e3, rv3⟩ := atI_rvs r2 ea
          rw [eg] at h
          have q := h ρ2 H2 _ (x1.trans x2) rp2 rv3
          rcases r3 with r3 | ⟨r3, _⟩
          · exact .inl ⟨a', vs, j, v3, rfl, rfl, r3, e3, q⟩
          · exact .inr (.inl ⟨a', vs, j, v3, rfl, rfl, r3, e3, q⟩)
end
end CC
set_option Elab.async false
set_option linter.all false
set_option maxRecDepth 100000
/-! CCSub2: slices, stores, methods -/
namespace CC
open PySem PySem.Spec PyProof.Rows L2

/-! ### slices -/
def cutW (xs : List W) (lo hi : Option Int) : List W := (xs.drop (HT.sIx xs.length 0 lo)).take (HT.sIx xs.length xs.length hi - HT.sIx xs.length 0 lo)
abbrev MO := Lo → S → R (Option Int)
def oNo : MO := fun _ s => .ok none s
def oSo (ma : Lo → S → R W) : MO := fun l s => (ma l s).bind fun w s1 => match w with
  | .int i => .ok (some i) s1
  | _ => .bad
def gSl (p : Hh) (o : W) (lo hi : Option Int) (s : S) : O2 := match o with
  | .tup ws => some (.tup (cutW ws lo hi), s)
  | .ref n => (match cellItems p s n with
    | some ws => some (.ref (nxt p s), al s (.lst (cutW ws lo hi)))
    | none => none)
  | _ => none
def eSl (p : Hh) (mo : Lo → S → R W) (ml mh : MO) : Lo → S → R W := fun l s => (mo l s).bind fun o s1 => (ml l s1).bind fun lo s2 => (mh l s2).bind fun hi s3 => R.ofO (gSl p o lo hi s3)
/-- xs[::-1] -/
def eRev (p : Hh) (mo : Lo → S → R W) : Lo → S → R W := fun l s => (mo l s).bind fun o s1 => match cellL p s1 o with
  | some ws => .ok (.ref (nxt p s1)) (al s1 (.lst ws.reverse))
  | none => .bad
/-! ### stores -/
def gSetX (p : Hh) (o i w : W) (s : S) : Option S := match o with
  | .ref n => (match rd p s n with
    | some (.lst ws) => (match i with
      | .int j => (match ixN ws.length j with | some k => some (wr p s n (.lst (ws.set k w))) | none => none)
      | _ => none)
    | some (.dct kvs) => (match keyW i with | some k => if kvs.length < 1000000 then some (wr p s n (.dct (putKW kvs k w))) else none | none => none)
    | some (.dtt kvs) => (match keysW i with | some k => if kvs.length < 1000000 then some (wr p s n (.dtt (putKW kvs k w))) else none | none => none)
    | _ => none)
  | _ => none
/-! ### methods -/
def eBm (c : Hh → S → W → Bool) (f : Hh → W → List W → S → O2) (p : Hh) (mo : Lo → S → R W) (mr : Lo → S → R (List W)) : Lo → S → R W := fun l s => (mo l s).bind fun o s1 => if c p s1 o then (mr l s1).bind fun xs s2 => R.ofO (f p o xs s2) else .bad
def isLst (p : Hh) (s : S) (w : W) : Bool := match cellL p s w with
  | some _ => true
  | none => false
def fAppend (p : Hh) (o : W) (xs : List W) (s : S) : O2 := match o, xs with
  | .ref n, [w] => (match rd p s n with
    | some (.lst ws) => if ws.length < 1000000 then some (.non, wr p s n (.lst (ws ++ [w]))) else none
    | _ => none)
  | _, _ => none
def fExtend (p : Hh) (o : W) (xs : List W) (s : S) : O2 := match o, xs with
  | .ref n, [.ref m] => (match rd p s n, rd p s m with
    | some (.lst ws), some (.lst us) => if ws.length + us.length ≤ 1000000 then some (.non, wr p s n (.lst (ws ++ us))) else none
    | _, _ => none)
  | _, _ => none
def fPop (p : Hh) (o : W) (xs : List W) (s : S) : O2 := match o, xs with
  | .ref n, [] => (match rd p s n with
    | some (.lst ws) => (match ws[ws.length - 1]? with | some w => some (w, wr p s n (.lst ws.dropLast)) | none => none)
    | _ => none)
  | _, _ => none
def fPopAt (p : Hh) (o : W) (xs : List W) (s : S) : O2 := match o, xs with
  | .ref n, [.int i] => (match rd p s n with
    | some (.lst ws) => (match ixN ws.length i with | some k => if b62 i then (match ws[k]? with | some w => some (w, wr p s n (.lst (ws.eraseIdx k))) | none => none) else none | none => none)
    | _ => none)
  | _, _ => none
def fClear (p : Hh) (o : W) (xs : List W) (s : S) : O2 := match o, xs with
  | .ref n, [] => (match rd p s n with
    | some (.lst _) => some (.non, wr p s n (.lst []))
    | _ => none)
  | _, _ => none
def fReverse (p : Hh) (o : W) (xs : List W) (s : S) : O2 := match o, xs with
  | .ref n, [] => (match rd p s n with
    | some (.lst ws) => some (.non, wr p s n (.lst ws.reverse))
    | _ => none)
  | _, _ => none
/-- += of names -/
def gIAdd (p : Hh) (x y : W) (s : S) : O2 := match x, y with
  | .ref n, .ref m => (match rd p s n, rd p s m with
    | some (.lst ws), some (.lst us) => if ws.length + us.length ≤ 1000000 then some (.ref n, wr p s n (.lst (ws ++ us))) else none
    | _, _ => none)
  | .int i, .int j => some (.int (i + j), s)
  | _, _ => none
section
variable {G : GE} {X : Cx} {ρ : List Addr} {H : Hp} {p : Hh} {s : S} {E : WX} {a b o i e : Expr} {es : List Expr} {ma mb mo mi : Lo → S → R W} {mr : Lo → S → R (List W)} {pos apos cpos : Pos} {ml mh : MO} {lo hi : Option Expr}
def SO (G : GE) (p : Hh) (E : WX) (X : Cx) (e : Option Expr) (m : MO) : Prop := PO X e (fun σ H Q => ∃ ρ l s, RL G ρ H l σ ∧ Rep G ρ p s H ∧ PoA G p ρ H (fun _ _ a b => a = b) (m l s) Q (fun c d H' => E c d σ H'))
theorem PO_imp {e : Option Expr} {t t' : TO} (h : PO X e t) (i : ∀ σ H Q, t' σ H Q → t σ H Q) : PO X e t' := ⟨fun pins s σ H Q I w => h.run pins s σ H Q I (i σ H Q w)⟩
theorem so_no : SO G p E X none oNo := PO_imp po_none fun σ H Q ⟨ρ, l, s, rl, rp, h⟩ => h ρ H none Ex.rfl' rp rfl
theorem so_so (ha : SE G p E X a ma) : SO G p E X (some a) (oSo ma) := PO_imp (po_some ha) fun σ H Q ⟨ρ, l, s, rl, rp, h⟩ => by
  unfold oSo at h
  refine ⟨ρ, l, s, rl, rp, PoA.bind h fun w s1 ρ1 H1 v x1 rp1 rv1 h1 => ?_⟩
  cases rv1 with
  | int i => exact ⟨i, rfl, h1 ρ1 H1 _ Ex.rfl' rp1 rfl⟩
  | _ => exact h1.elim
theorem cutW_ok {ws : List W} {vs : List V} (r : RVs G ρ H ws vs) (lo hi : Option Int) : RVs G ρ H (cutW ws lo hi) (cutV vs lo hi) := by
  unfold cutW cutV
  rw [r.len]
  exact (r.drop _).take _
theorem se_sl {p2 : Pos} (ho : SE G p E X a mo) (hl : SO G p E X lo ml) (hh : SO G p E X hi mh) : SE G p E X (.Subscript a (.Slice lo hi none p2) pos) (eSl p mo ml mh) :=
  PE_imp (pe_slice (sl_list.or sl_tupA) ho hl hh) fun σ H Q ⟨ρ, l, s, rl, rp, h⟩ => by
    unfold eSl at h
    refine ⟨ρ, l, s, rl, rp, PoA.bind h fun w s1 ρ1 H1 v x1 rp1 rv1 h1 => ⟨ρ1, l, s1, rl.mono x1, rp1, PoA.bind h1 fun lo' s2 ρ2 H2 v2 x2 rp2 rv2 h2 => ⟨ρ2, l, s2, (rl.mono x1).mono x2, rp2, PoA.bind h2 fun hi' s3 ρ3 H3 v3 x3 rp3 rv3 h3 => ?_⟩⟩⟩
    subst rv2 rv3
    have h3 := po_of h3
    have rv1 := (rv1.mono x2).mono x3
    unfold gSl at h3
    cases rv1 with
    | @tup a' ws vs na ha r =>
      refine .inr ⟨a', vs, rfl, SqT.of ha, fun hw => ?_, fun hw q hq => po_tup rp3 (cutW_ok r lo' hi') h3 hq⟩
      have e : cutV vs lo' hi' = vs := by
        unfold cutV
        rw [hw.1, hw.2]
        simp
      have r2 := cutW_ok r lo' hi'
      rw [e] at r2
      exact po_v h3 rp3 (.tup na ha r2)
    | @ref n a' en =>
      dsimp only at h3
      cases z : cellItems p s3 n with
      | none => rw [z] at h3; exact h3.elim
      | some ws =>
        rw [z] at h3
        obtain ⟨vs, hs, r⟩ := cell_seq (K := X.K) rp3 z en
        exact .inl ⟨a', vs, rfl, hs, fun q hq => po_lst rp3 (cutW_ok r lo' hi') h3 hq⟩
    | _ => exact h3.elim
theorem se_rev {k : Nat} {p1 p2 p3 : Pos} (ho : SE G p E X a mo) : SE G p E X (.Subscript a (.Slice none none (some (.UnaryOp .USub (.Constant (.int 1) k p1) p2)) p3) pos) (eRev p mo) :=
  PE_imp (pe_revL ho) fun σ H Q ⟨ρ, l, s, rl, rp, h⟩ => by
    unfold eRev at h
    refine ⟨ρ, l, s, rl, rp, PoA.bind h fun w s1 ρ1 H1 v x1 rp1 rv1 h1 => ?_⟩
    cases z : cellL p s1 w with
    | none => rw [z] at h1; exact h1.elim
    | some ws =>
      rw [z] at h1
      obtain ⟨a', vs, rfl, r, hs⟩ := cellL_at (K := X.K) rp1 rv1 z
      exact ⟨a', vs, rfl, hs, fun q hq => po_lst (s := s1) rp1 r.rev h1 hq⟩
/-- a cell of a list, to be written -/
theorem po_wr {n : Nat} {a : Addr} {ob : Ob} {u : HO} {w : W} {v : V} {Q : VK} (rp : Rep G ρ p s H) (e : ρ[n]? = some a) (h : PoO G p ρ H (some (w, wr p s n ob)) Q) (hu : Ex ρ H ρ (upd H a u) → RO G ρ (upd H a u) ob u) (hv : Ex ρ H ρ (upd H a u) → RV G ρ (upd H a u) w v) : Q v (upd H a u) := by
  have x : Ex ρ H ρ (upd H a u) := ⟨⟨[], by simp⟩, fun _ h n => absurd h n, fun b o n h => by
    have nb : b ≠ a := fun z => n (by rw [z]; exact List.mem_of_getElem? e)
    rw [upd_ne nb]; exact h⟩
  obtain ⟨_, r2⟩ := rp.wr_ e (hu x)
  exact h ρ _ _ x r2 (hv x)
theorem s_setx (hu : X.A.units + 1 < cLine) : SetI G X gSetX := by
  intro p pins sh σ H ov iv v ov' iv' u Q I ro ri rv ⟨ρ, s, wo, wi, w, rp, r1, r2, r3, h⟩
  unfold gSetX at h
  cases r1 with
  | @ref n a e =>
    dsimp only at h
    cases z : rd p s n with
    | none => rw [z] at h; exact h.elim
    | some ob =>
      rw [z] at h
      obtain ⟨hu', hh, q⟩ := rp.at z e
      have x : ∀ u, Ex ρ H ρ (upd H a u) := fun u => ⟨⟨[], by simp⟩, fun _ h n => absurd h n, fun b o n h => by
        have nb : b ≠ a := fun z => n (by rw [z]; exact List.mem_of_getElem? e)
        rw [upd_ne nb]; exact h⟩
      cases q with
      | @lst ws vs r =>
        dsimp only at h
        cases r2 with
        | int j =>
          dsimp only at h
          cases ej : ixN ws.length j with
          | none => rw [ej] at h; exact h.elim
          | some k =>
            rw [ej] at h
            obtain ⟨x2, rp2⟩ := rp.wr_ (u := .lst (vs.set k v)) e (.lst ((r.mono (x _)).set k (r3.mono (x _))))
            exact set_list pins sh σ H _ _ v ov' iv' u Q I ro ri rv ⟨a, vs, j, k, rfl, rfl, hh, by rw [← r.len]; exact ej, h _ x2 rp2⟩
        | _ => exact h.elim
      | @dK kvs ks q1 q2 =>
        dsimp only at h
        cases ek : keyW wi with
        | none => rw [ek] at h; exact h.elim
        | some k =>
          rw [ek] at h
          dsimp only at h
          by_cases hl : kvs.length < 1000000
          · rw [if_pos hl] at h
            obtain ⟨y1, y2⟩ := putKW_ok (k := k) (r3.mono (x (.dK (putK ks k v)))) q1 (q2.mono (x _))
            obtain ⟨x2, rp2⟩ := rp.wr_ (u := .dK (putK ks k v)) e (.dK y1 y2)
            have hl2 : ks.length < sizeLine := by
              have e2 : kvs.length = ks.length := by simpa using congrArg List.length q1
              rw [← e2, sizeLine_eq]; omega
            have ekv := key_ok r2 ek
            subst ekv
            exact set_dict hu pins sh σ H _ _ v ov' iv' u Q I ro ri rv ⟨a, _, rfl, DPut.k hh hl2, h _ x2 rp2⟩
          · rw [if_neg hl] at h; exact h.elim
      | @dT kvs ks q1 q2 =>
        dsimp only at h
        cases ek : keysW wi with
        | none => rw [ek] at h; exact h.elim
        | some k =>
          rw [ek] at h
          dsimp only at h
          by_cases hl : kvs.length < 1000000
          · rw [if_pos hl] at h
            obtain ⟨y1, y2⟩ := putKW_ok (k := k) (r3.mono (x (.dT (putK ks k v)))) q1 (q2.mono (x _))
            obtain ⟨x2, rp2⟩ := rp.wr_ (u := .dT (putK ks k v)) e (.dT y1 y2)
            have hl2 : ks.length < sizeLine := by
              have e2 : kvs.length = ks.length := by simpa using congrArg List.length q1
              rw [← e2, sizeLine_eq]; omega
            obtain ⟨b', rfl, hb⟩ := keys_ok r2 ek
            exact set_dict hu pins sh σ H _ _ v ov' iv' u Q I ro ri rv ⟨a, _, rfl, DPut.t hh hb hl2, h _ x2 rp2⟩
          · rw [if_neg hl] at h; exact h.elim
      | _ => exact h.elim
  | _ => exact h.elim
/-- a method of a built-in type, by values -/
def MtI (G : GE) (X : Cx) (id : String) (f : Hh → W → List W → S → O2) : Prop :=
  ∀ p, MtR X id (fun v vs H Q => ∃ ρ s w ws, Rep G ρ p s H ∧ RV G ρ H w v ∧ RVs G ρ H ws vs ∧ PoO G p ρ H (f p w ws s) Q)
theorem mtI_of {id : String} {r : V → List V → Hp → VK → Prop} {f : Hh → W → List W → S → O2} (hr : MtR X id r) (h : ∀ (p : Hh) (ρ : List Addr) (s : S) (H : Hp) (w : W) (ws : List W) (v : V) (vs : List V) (Q : VK), Rep G ρ p s H → RV G ρ H w v → RVs G ρ H ws vs → PoO G p ρ H (f p w ws s) Q → r v vs H Q) : MtI G X id f :=
  fun p pins s σ H v vs v' us Q I rv ru ⟨ρ, s0, w, ws, rp, r1, r2, q⟩ => hr pins s σ H v vs v' us Q I rv ru (h p ρ s0 H w ws v vs Q rp r1 r2 q)
/-- the test c says that the value is of the type T -/
def TyI (G : GE) (K : PySem.W.Frag) (T : String) (c : Hh → S → W → Bool) : Prop := ∀ (p : Hh) (ρ : List Addr) (s : S) (H : Hp) (w : W) (v : V), Rep G ρ p s H → RV G ρ H w v → c p s w = true → tyV K T v H
theorem ty_lst {K : PySem.W.Frag} : TyI G K "list" isLst := fun p ρ s H w v rp rv h => by
  unfold isLst at h
  cases z : cellL p s w with
  | none => rw [z] at h; cases h
  | some ws =>
    obtain ⟨a, vs, rfl, _, hs⟩ := cellL_at (K := K) rp rv z
    exact .inl ⟨rfl, vs, hs⟩
theorem se_bm {T id : String} {name : Str} {c : Hh → S → W → Bool} {f : Hh → W → List W → S → O2} (pa : PlainAttrs T) (slot : Slot T name id) (hty : typeOf (.builtin id) = pure (.type "method_descriptor")) (hc : TyI G X.K T c) (hm : MtI G X id f) (ho : SE G p E X o mo) (ha : SA G p E X (e :: es) mr)
    (hbase : attributeBase o name X.env (eval o X.env) = eval o X.env := by rfl)
    (hfew : ((backTo cpos (starEach (e :: es) X.env)).all (fun x => !x.1) && (backToKw cpos (keywordEach [] X.env)).all (fun x => x.1.isSome)
      && decide ((e :: es).length + ([] : List Keyword).length + (if ([] : List Keyword).isEmpty then 0 else 1) < 30)) = true := by rfl)
    (hline : (apos.endLine == cpos.line) = true := by rfl) (hs : starEach (e :: es) X.env = (false, eval e X.env) :: starEach es X.env := by rfl) (hplain : (backTo cpos (starEach es X.env)).any (·.1) = false := by rfl) :
    SE G p E X (.Call (.Attribute o name apos) (e :: es) [] cpos) (eBm c f p mo mr) :=
  PE_imp (pe_bm pa slot hty (hm p) ho ha hbase hfew hline hs hplain) fun σ H Q ⟨ρ, l, s, rl, rp, h⟩ => by
    unfold eBm at h
    refine ⟨ρ, l, s, rl, rp, PoA.bind h fun w s1 ρ1 H1 v x1 rp1 rv1 h1 => ?_⟩
    split at h1
    · rename_i hcc
      exact ⟨hc p ρ1 s1 H1 w v rp1 rv1 hcc, ρ1, l, s1, rl.mono x1, rp1, PoA.bind h1 fun xs s2 ρ2 H2 vs x2 rp2 rv2 h2 => ⟨ρ2, s2, w, xs, rp2, rv1.mono x2, rv2, po_of h2⟩⟩
    · exact h1.elim
theorem se_bm0 {T id : String} {name : Str} {c : Hh → S → W → Bool} {f : Hh → W → List W → S → O2} (pa : PlainAttrs T) (slot : Slot T name id) (hty : typeOf (.builtin id) = pure (.type "method_descriptor")) (hc : TyI G X.K T c) (hm : MtI G X id f) (ho : SE G p E X o mo)
    (hbase : attributeBase o name X.env (eval o X.env) = eval o X.env := by rfl) (hline : (apos.endLine == cpos.line) = true := by rfl) :
    SE G p E X (.Call (.Attribute o name apos) [] [] cpos) (eBm c f p mo aNil) :=
  PE_imp (pe_bm0 pa slot hty (hm p) ho hbase hline) fun σ H Q ⟨ρ, l, s, rl, rp, h⟩ => by
    unfold eBm at h
    refine ⟨ρ, l, s, rl, rp, PoA.bind h fun w s1 ρ1 H1 v x1 rp1 rv1 h1 => ?_⟩
    split at h1
    · rename_i hcc
      exact ⟨hc p ρ1 s1 H1 w v rp1 rv1 hcc, ρ1, s1, w, [], rp1, rv1, .nil, po_of h1⟩
    · exact h1.elim
theorem m_append : MtI G X "list.append" fAppend := mtI_of mt_append fun p ρ s H w ws v vs Q rp r1 r2 h => by
  unfold fAppend at h
  split at h
  · rename_i n w1
    cases r1 with | ref e =>
    cases r2 with | cons q1 q2 =>
    cases q2
    split at h
    · rename_i xs hx
      split at h
      · rename_i hl
        obtain ⟨vs, hv, r⟩ := lst_at rp hx e
        refine ⟨_, vs, _, rfl, rfl, hv, by rw [← r.len, sizeLine_eq]; omega, po_wr rp e h (fun x => .lst ((r.mono x).app (.cons (q1.mono x) .nil))) fun _ => .non⟩
      · exact h.elim
    · exact h.elim
  · exact h.elim
theorem m_extend : MtI G X "list.extend" fExtend := mtI_of mt_extend fun p ρ s H w ws v vs Q rp r1 r2 h => by
  unfold fExtend at h
  split at h
  · rename_i n m
    cases r1 with | ref e =>
    cases r2 with | cons q1 q2 =>
    cases q2
    cases q1 with | ref e' =>
    split at h
    · rename_i xs ys hx hy
      split at h
      · rename_i hl
        obtain ⟨vs, hv, r⟩ := lst_at rp hx e
        obtain ⟨us, hu, r'⟩ := lst_at rp hy e'
        exact ⟨_, _, vs, us, rfl, rfl, hv, hu, by rw [← r.len, ← r'.len]; exact million hl, po_wr rp e h (fun x => .lst ((r.mono x).app (r'.mono x))) fun _ => .non⟩
      · exact h.elim
    · exact h.elim
  · exact h.elim
theorem RVs.dropLast : ∀ {ws : List W} {vs : List V}, RVs G ρ H ws vs → RVs G ρ H ws.dropLast vs.dropLast
  | _, _, .nil => .nil
  | _, _, .cons h .nil => .nil
  | _, _, .cons h (.cons h' r) => .cons h (RVs.dropLast (.cons h' r))
theorem RVs.eraseIdx : ∀ {ws : List W} {vs : List V} (k : Nat), RVs G ρ H ws vs → RVs G ρ H (ws.eraseIdx k) (vs.eraseIdx k)
  | _, _, _, .nil => .nil
  | _, _, 0, .cons h r => r
  | _, _, k + 1, .cons h r => .cons h (RVs.eraseIdx k r)
theorem m_pop : MtI G X "list.pop" fPop := mtI_of mt_pop fun p ρ s H w ws v vs Q rp r1 r2 h => by
  unfold fPop at h
  split at h
  · rename_i n
    cases r1 with | ref e =>
    cases r2
    split at h
    · rename_i xs hx
      split at h
      · rename_i w hw
        obtain ⟨vs, hv, r⟩ := lst_at rp hx e
        obtain ⟨v, hv2, rv⟩ := r.get hw
        exact ⟨_, vs, v, rfl, rfl, hv, by rw [← r.len]; exact hv2, po_wr rp e h (fun x => .lst (r.mono x).dropLast) fun x => rv.mono x⟩
      · exact h.elim
    · exact h.elim
  · exact h.elim
theorem m_popAt : MtI G X "list.pop" fPopAt := mtI_of mt_popAt fun p ρ s H w ws v vs Q rp r1 r2 h => by
  unfold fPopAt at h
  split at h
  · rename_i n i
    cases r1 with | ref e =>
    cases r2 with | cons q1 q2 =>
    cases q2
    cases q1
    split at h
    · rename_i xs hx
      split at h
      · rename_i k hk
        split at h
        · rename_i hb
          split at h
          · rename_i w hw
            obtain ⟨vs, hv, r⟩ := lst_at rp hx e
            obtain ⟨v, hv2, rv⟩ := r.get hw
            obtain ⟨b1, b2⟩ := b62_ok hb
            exact ⟨_, vs, i, k, v, rfl, rfl, hv, by omega, by omega, by rw [← r.len]; exact (ixN_seq hk).1, hv2, po_wr rp e h (fun x => .lst ((r.mono x).eraseIdx k)) fun x => rv.mono x⟩
          · exact h.elim
        · exact h.elim
      · exact h.elim
    · exact h.elim
  · exact h.elim
theorem m_clear : MtI G X "list.clear" fClear := mtI_of mt_clear fun p ρ s H w ws v vs Q rp r1 r2 h => by
  unfold fClear at h
  split at h
  · rename_i n
    cases r1 with | ref e =>
    cases r2
    split at h
    · rename_i xs hx
      obtain ⟨vs, hv, r⟩ := lst_at rp hx e
      exact ⟨_, vs, rfl, rfl, hv, po_wr rp e h (fun x => .lst .nil) fun x => .non⟩
    · exact h.elim
  · exact h.elim
theorem m_reverse : MtI G X "list.reverse" fReverse := mtI_of mt_reverse fun p ρ s H w ws v vs Q rp r1 r2 h => by
  unfold fReverse at h
  split at h
  · rename_i n
    cases r1 with | ref e =>
    cases r2
    split at h
    · rename_i xs hx
      obtain ⟨vs, hv, r⟩ := lst_at rp hx e
      exact ⟨_, vs, rfl, rfl, hv, po_wr rp e h (fun x => .lst (r.mono x).rev) fun x => .non⟩
    · exact h.elim
  · exact h.elim
end
end CC
set_option Elab.async false
set_option linter.all false
set_option maxRecDepth 100000
/-! CCEnum: enumerate (of a list, of a tuple), zip, texts -/
namespace CC
open PySem PySem.Spec PyProof.Rows L2

set_option maxHeartbeats 1000000 in
theorem enum_made {v : Value} {o : Obj} {H : Heap → Prop} (B : Begins v o H) :
    Meets (Builtin.«enumerate.__new__» ⟨[.type "enumerate", v], []⟩) (fun _ R s => H s.heap ∧ R (.ok (.ret (.ref (s.heap.push o).objs.size))) { s with heap := (s.heap.push o).push { cls := .type "enumerate", data := .fields #[.none, .bool false, .ref s.heap.objs.size, rawInt 0, .none, .none] } }) := .of_wp fun prog w A R s h => by
  obtain ⟨hp, g, d, tk, os⟩ := s
  obtain ⟨h1, h⟩ := h
  have hsub := sub_enumerate
  have qq : ∀ {A' : Around} {E Q : Value → Shared → Prop}, Q (.ref hp.objs.size) ⟨hp.push o, g, d, tk, os⟩ → wpAny (model prog w) A' (pyIter v) Q E ⟨hp, g, d, tk, os⟩ := fun z => B.iter prog w _ _ ⟨hp, g, d, tk, os⟩ _ h1 z
  wp_walk using qq
  refine wpAny_stack_any fun st => wpAny_pure ?_
  split
  · rename_i c _ _ _ _ _
    cases (c == Value.type "enumerate") <;> (wp_walk using qq; exact ⟨_, rfl, h⟩)
  · wp_walk using qq
    exact ⟨_, rfl, h⟩
theorem enum_call {prog : Program} {w : World} {A : Around} {E : Value → Shared → Prop} {s : Shared} {v : Value} {o : Obj} {H : Heap → Prop} {Q : Value → Shared → Prop} (B : Begins v o H) (h1 : H s.heap)
    (h : ∀ h', IsEnum h' (s.heap.objs.size + 1) s.heap.objs.size 0 .none → h'.get? s.heap.objs.size = some o → (∀ b u, s.heap.get? b = some u → h'.get? b = some u) → Q (.ref (s.heap.objs.size + 1)) { s with heap := h' }) : wpAny (model prog w) A (call (.type "enumerate") [v]) Q E s := by
  refine callType_new F.called_enumerate (by decide) (F.typeCall_enumerate_1 _) (F.newCall_enumerate_1 _) (fun obj => F.args_object_init_2 obj _) F.entry_enumerate_new (enum_made B) ⟨h1, ?_⟩
  have hz : (s.heap.push o).objs.size = s.heap.objs.size + 1 := Heap.size_push ..
  show _ ∧ _
  rw [hz]
  have g := Heap.get?_push_size (s.heap.push o) (o := { cls := .type "enumerate", data := .fields #[.none, .bool false, .ref s.heap.objs.size, rawInt 0, .none, .none] }) rfl
  rw [hz] at g
  exact ⟨⟨_, g, rfl⟩, h _ g (Heap.get?_push_of_some _ (Heap.get?_push_size _ B.free)) fun b u x => Heap.get?_push_of_some _ (Heap.get?_push_of_some _ x)⟩
theorem enumT_end {prog : Program} {w : World} {A : Around} {E : Value → Shared → Prop} {s : Shared} {e it t : Addr} {i : Nat} {items : Array Value} {old : Value} {Q : Option Value → Shared → Prop} (hh : A.handled = none) (he : IsEnum s.heap e it i old) (hit : s.heap.IsTupleIter it t i) (ht : s.heap.IsTuple t items) (hx : items[i]? = none)
    (hQ : ∀ h', Heap.ExtBut it s.heap h' → Q none { s with heap := h' }) : wpAny (model prog w) A (pyNext (.ref e)) Q E s := by
  have hT : s.TypeIs (.ref e) "enumerate" := ⟨_, he, rfl⟩
  unfold pyNext
  refine wpAny_bind (wpAny_attempt (wpAny_callSpecial?_slot (name := Str.ofString "__next__") hT F.slot_enumerate_next (wpAny_call_entry F.slot_enumerate_next hT F.entry_enumerate_next ?_ (F.args_enumerate_next_1 _))))
  show wpAny _ _ (field (.ref e) 2 >>= _) _ _ _
  refine wpAny_bind (wpAny_field he rfl (x := .ref it) rfl (wpAny_bind (wpAny_nextOf_tuple_end hh hit ht hx fun h' x g1 g2 => ?_)))
  obtain ⟨o, ho, hc⟩ := g2
  exact wpAny_bind (wpAny_isInstance (T := "StopIteration") (b := true) ⟨o, ho, hc⟩ isSubtype_stop (wpAny_pure (hQ _ g1)))
/-- the tuple at a, each item in a new pair with its place -/
def ItU (a : Addr) : It :=
  ⟨fun i H => ∃ (xs : List V) (x : V), H a = some (.tup xs) ∧ xs[i]? = some x, fun i H v H' => ∃ T x, v = .ref T ∧ H T = none ∧ H' = upd H T (.tup [.int (i : Nat), x]) ∧ ∀ xs, H a = some (.tup xs) → xs[i]? = some x, fun i H => ∃ xs : List V, H a = some (.tup xs) ∧ xs.length ≤ i⟩
theorem turn_enumT {P : Program} {w : World} {K : PySem.W.Frag} {elts : List Expr} {kk : Nat} {tpos : Pos} (a e it : Addr) : Turn P w K (.Tuple elts kk tpos) (ItU a) [e, it] e (fun i h => (∃ old, IsEnum h e it ((i : Nat) : Int) old) ∧ h.IsTupleIter it a i ∧ e ≠ it) where
  mem := by simp
  obj := fun i h st b hb => by
    obtain ⟨⟨old, he⟩, ⟨o, ho, hc, hd⟩, _⟩ := st
    rcases (show b = e ∨ b = it by simpa using hb) with z | z
    · subst z; exact ⟨_, he, fun v q => nomatch q⟩
    · subst z; exact ⟨o, ho, fun v q => by rw [hd] at q; cases q⟩
  keep := fun i h h' st k => let ⟨⟨old, he⟩, hi, hne⟩ := st; ⟨⟨old, k e (by simp) _ he⟩, hi.at fun o q => k it (by simp) o q, hne⟩
  item := by
    intro X hP hw hK hc i pins s σ H E I hf st hg
    subst hP hw hK
    obtain ⟨⟨old, he⟩, hit, hne⟩ := st
    obtain ⟨xs, x, hq, hx⟩ := hg
    have nai : a ≠ it := ne_of_none hq (hf it (by simp)).1
    have nae : e ∉ [it, a] := by
      have : a ≠ e := ne_of_none hq (hf e (by simp)).1
      simp [hne, Ne.symm this]
    obtain ⟨its, rv, p, hz⟩ := I.tuple (xs := xs) (SqT.of hq)
    obtain ⟨u, hu, ru⟩ := rv.get hx
    have hi : i < its.toArray.size := by
      have := (List.getElem?_eq_some_iff.mp hu).1
      simpa using this
    have hel : e < s.heap.objs.size := Heap.lt_size he
    have hil : it < s.heap.objs.size := by obtain ⟨_, q, _⟩ := hit; exact Heap.lt_size q
    refine wpAny_pyNext_enum_itemD (Draws.tuple (A := X.A.in1) (I.ok.hd hc) it a nai its.toArray) he ⟨hit, p⟩ hi hne nae fun y h' tk hy ho hit' hT hsz hk => ?_
    have ey : y = u := by
      have e1 : its[i]? = some y := by simpa using hy
      rw [hu] at e1
      exact (Option.some.inj e1).symm
    subst ey
    refine ⟨_, rfl, wpAny_letOwnedTupleGo_enum (s := { s with heap := h', toks := tk + 1 }) ho fun h'' he' sb => ?_⟩
    have hT2 : h''.get? s.heap.objs.size = some { cls := .type "tuple", data := .seq #[.int i tk, y] } := (sb.2 _ (Nat.ne_of_gt hel)).trans hT
    have new : ObjOk X.prog X.w (upd H s.heap.objs.size (.tup [.int (i : Nat), x])) h'' s.heap.objs.size (.tup [.int (i : Nat), x]) := ⟨by show 2 ≤ sizeLine; decide, [.int i tk, y], .cons ⟨_, rfl⟩ (.cons ru .nil), ⟨_, hT2, rfl, _, rfl⟩⟩
    have I1 : Inv X pins σ (upd H s.heap.objs.size (.tup [.int (i : Nat), x])) { s with heap := h'', toks := tk + 1 } :=
      I.turnedNew (ch := [e, it]) (fun b ob hb q => (sb.2 b (fun z => hb (by simp [z]))).trans (hk b ob (fun z => hb (by simp [z])) (fun z => hb (by simp [z])) q)) hf (Nat.le_refl _) new
    refine ⟨.ref s.heap.objs.size, _, I1, rfl, ⟨_, x, rfl, I.hok.fresh (Nat.le_refl _), rfl, fun ys hy => by rw [hq] at hy; cases hy; exact hx⟩, ⟨⟨y, ?_⟩, hit'.1.at fun o q => (sb.2 it (Ne.symm hne)).trans q, hne⟩, fun b hb => ?_⟩
    · have e1 : ((i + 1 : Nat) : Int) = (i : Int) + 1 := by omega
      rw [e1]; exact he'
    · have hb' : b < s.heap.objs.size := by
        rcases (show b = e ∨ b = it by simpa using hb) with z | z
        · rw [z]; exact hel
        · rw [z]; exact hil
      rw [upd_ne (Nat.ne_of_lt hb')]
      exact (hf b hb).1
  done := by
    intro X hP hw hK hc i pins s σ H E I hf st hg
    subst hP hw hK
    obtain ⟨⟨old, he⟩, hit, hne⟩ := st
    obtain ⟨xs, hq, hx⟩ := hg
    obtain ⟨its, rv, p, hz⟩ := I.tuple (xs := xs) (SqT.of hq)
    obtain ⟨f0, f1, f2, f3, f4, f5⟩ := hf it (by simp)
    have hl := rv.length
    exact enumT_end (I.ok.hd hc) he hit p (by simp; omega) fun h' eb => ⟨rfl, I.turned (t' := s.toks) (fun b o hb q => eb b o hb q) f0 f1 f3 f4 f5⟩
  self := fun A i s Q E st h => let ⟨⟨_, he⟩, _⟩ := st; wpAny_pyIter_enum he h
end CC
set_option Elab.async false
set_option linter.all false
set_option maxRecDepth 100000
/-! CCEnum2: rules for enumerate, zip, texts -/
namespace CC
open PySem PySem.Spec PyProof.Rows L2

def iEnT (ta : TA) : TI := fun σ H R => ta σ H fun vs H1 => ∃ a xs, vs = [.ref a] ∧ H1 a = some (.tup xs) ∧ R (ItU a) H1
theorem pi_enumT {X : Cx} {e : Expr} {ta : TA} {p pos tpos : Pos} {elts : List Expr} {kk : Nat} (hg : Gl X "enumerate") (hm : X.mg "enumerate" = none) (ha : PA X [e] ta) (hs : starEach [e] X.env = [(false, eval e X.env)] := by rfl) :
    PI X (.Tuple elts kk tpos) (.Call (.Name "enumerate" p) [e] [] pos) (iEnT ta) := by
  refine ⟨fun pins s σ H R I h => ?_⟩
  refine Call_ (ld_blt I hg hm boot_enumerate (PyProof.Rows.callWith_type1 (thn (ha.run pos pins s σ H _ I h) fun us s1 ⟨vs, H1, I1, r1, q1⟩ => ?_) hs rfl))
  obtain ⟨a, xs, ex, hq, q⟩ := q1
  subst ex
  cases r1 with
  | cons r rr =>
    cases rr
    cases r
    obtain ⟨its, rv, p', hz⟩ := I1.tuple (xs := xs) (SqT.of hq)
    refine enum_call (begins_tuple a its.toArray) p' fun h' he hit hk => wpAny_pyIter_enum he ?_
    have I2 : Inv X pins σ H1 { s1 with heap := h' } := I1.kept (t' := s1.toks) hk
    refine ⟨s1.heap.objs.size + 1, [s1.heap.objs.size + 1, s1.heap.objs.size], _, _, H1, rfl, I2, turn_enumT a (s1.heap.objs.size + 1) s1.heap.objs.size, ⟨⟨.none, he⟩, ⟨_, hit, rfl, rfl⟩, Nat.succ_ne_self _⟩, fun b hb => ?_, q⟩
    have hle : s1.heap.objs.size ≤ b := by
      rcases (show b = s1.heap.objs.size + 1 ∨ b = s1.heap.objs.size by simpa using hb) with z | z
      · rw [z]; exact Nat.le_add_right _ _
      · rw [z]; exact Nat.le_refl _
    exact I1.fpOk hle (I1.hok.fresh hle)
def iEnm (ma : Lo → S → R W) (p : Hh) : Lo → S → R ItD := fun l s => (ma l s).bind fun w s1 => match w with
  | .ref n => (match cellItems p s1 n with | some _ => .ok (.enl n) s1 | none => .bad)
  | .tup ws => .ok (.ent ws) s1
  | _ => .bad
def iZip (ma mb : Lo → S → R W) (p : Hh) : Lo → S → R ItD := fun l s => (ma l s).bind fun w s1 => (mb l s1).bind fun u s2 => match w, u with
  | .ref n, .ref m => (match cellItems p s2 n, cellItems p s2 m with | some _, some _ => .ok (.zip n m) s2 | _, _ => .bad)
  | _, _ => .bad
section
variable {G : GE} {p : Hh} {E : WX} {X : Cx} {ρ : List Addr} {H : Hp} {s : S}
theorem ri_ent {ws : List W} {vs : List V} {a : Addr} (na : a ∉ ρ) (h : H a = some (.tup vs)) (r : RVs G ρ H ws vs) : RI G p ρ H (.ent ws) (ItU a) where
  yes := fun i w s ρ1 H1 x rp q => by
    have q : ws[i]?.map (fun w => W.tup [.int (i : Nat), w]) = some w := Option.some.inj q
    cases q2 : ws[i]? with
    | none => rw [q2] at q; cases q
    | some w1 =>
      rw [q2] at q
      cases q
      have h1 := x.keep _ _ na h
      obtain ⟨v, hv, rv⟩ := (r.mono x).get q2
      refine ⟨⟨vs, v, h1, hv⟩, fun y H2 hy => ?_⟩
      obtain ⟨T, x1, rfl, nT, rfl, hy⟩ := hy
      have e2 := hy vs h1
      rw [hv] at e2; cases e2
      exact pair_new rp nT (.int _) rv
  no := fun i s ρ1 H1 x rp q => by
    have q : ws[i]?.map (fun w => W.tup [.int (i : Nat), w]) = none := Option.some.inj q
    exact ⟨vs, x.keep _ _ na h, by rw [← r.len]; exact List.getElem?_eq_none_iff.mp (by simpa using q)⟩
variable {a b : Expr} {ma mb : Lo → S → R W} {q' pos tpos : Pos} {elts : List Expr} {kk : Nat}
theorem si_enum (hm : X.mg "enumerate" = none) (ha : SE G p E X a ma) (hg : Gl X "enumerate" := by rfl) (hs : starEach [a] X.env = [(false, eval a X.env)] := by rfl) (hs2 : starEach (a :: []) X.env = (false, eval a X.env) :: starEach [] X.env := by rfl) : SI G p E X (.Tuple elts kk tpos) (.Call (.Name "enumerate" q') [a] [] pos) (iEnm ma p) :=
  PI_imp (PI_or (pi_enum hg hm (pa1 ha hs2) hs) (pi_enumT hg hm (pa1 ha hs2) hs)) fun σ H R' ⟨ρ, l, s, rl, rp, h⟩ => by
    unfold iEnm at h
    cases e : ma l s with
    | bad => rw [e] at h; exact h.elim
    | exc c w s1 =>
      refine .inl ⟨ρ, l, s, rl, rp, ?_⟩
      rw [e] at h ⊢
      exact h
    | ok w s1 =>
      rw [e] at h
      simp only [CC.R.bind] at h
      cases w with
      | ref n =>
        dsimp only at h
        cases q : cellItems p s1 n with
        | none => rw [q] at h; exact h.elim
        | some ws =>
          rw [q] at h
          refine .inl ⟨ρ, l, s, rl, rp, ?_⟩
          rw [e]
          refine fun ρ1 H1 v x1 rp1 rv => ?_
          cases rv with
          | ref e1 =>
            obtain ⟨vs, hs, _⟩ := cell_seq (K := X.K) rp1 q e1
            exact ⟨_, _, rfl, hs, h ρ1 H1 _ x1 rp1 (ri_enl e1)⟩
      | tup ws =>
        refine .inr ⟨ρ, l, s, rl, rp, ?_⟩
        rw [e]
        refine fun ρ1 H1 v x1 rp1 rv => ?_
        cases rv with
        | tup na h1 r => exact ⟨_, _, rfl, h1, h ρ1 H1 _ x1 rp1 (ri_ent na h1 r)⟩
      | _ => exact h.elim
theorem ri_zip {K : PySem.W.Frag} {n m : Nat} {a b : Addr} (e : ρ[n]? = some a) (e' : ρ[m]? = some b) : RI G p ρ H (.zip n m) (Itz K a b) where
  yes := fun i w s ρ1 H1 x rp h => by
    simp only [ItD.next] at h
    cases q : cellItems p s n with
    | none => rw [q] at h; cases h
    | some ws =>
      cases q' : cellItems p s m with
      | none => rw [q, q'] at h; cases h
      | some us =>
        rw [q, q'] at h
        dsimp only at h
        cases g : ws[i]? with
        | none => rw [g] at h; cases h
        | some w1 =>
          cases g' : us[i]? with
          | none => rw [g, g'] at h; cases h
          | some u1 =>
            rw [g, g'] at h
            cases h
            obtain ⟨vs, hs, r⟩ := cell_seq (K := K) rp q (x.get e)
            obtain ⟨vs', hs', r'⟩ := cell_seq (K := K) rp q' (x.get e')
            obtain ⟨v, hv, rv⟩ := r.get g
            obtain ⟨v', hv', rv'⟩ := r'.get g'
            refine ⟨⟨vs, vs', v, v', hs, hs', hv, hv'⟩, fun y H2 hy => ?_⟩
            obtain ⟨T, x1, y1, rfl, nT, rfl, hy, hy'⟩ := hy
            have e2 := hy vs hs
            rw [hv] at e2; cases e2
            have e3 := hy' vs' hs'
            rw [hv'] at e3; cases e3
            exact pair_new rp nT rv rv'
  no := fun i s ρ1 H1 x rp h => by
    simp only [ItD.next] at h
    cases q : cellItems p s n with
    | none => rw [q] at h; cases h
    | some ws =>
      cases q' : cellItems p s m with
      | none => rw [q, q'] at h; cases h
      | some us =>
        rw [q, q'] at h
        dsimp only at h
        obtain ⟨vs, hs, r⟩ := cell_seq (K := K) rp q (x.get e)
        obtain ⟨vs', hs', r'⟩ := cell_seq (K := K) rp q' (x.get e')
        refine ⟨vs, vs', hs, hs', ?_⟩
        rw [← r.len, ← r'.len]
        cases g : ws[i]? with
        | none => exact .inl (List.getElem?_eq_none_iff.mp g)
        | some w1 =>
          cases g' : us[i]? with
          | none => exact .inr (List.getElem?_eq_none_iff.mp g')
          | some u1 => rw [g, g'] at h; cases h
theorem si_zip (hm : X.mg "zip" = none) (ha : SE G p E X a ma) (hb : SE G p E X b mb) (hg : Gl X "zip" := by rfl) (hs : starEach [a, b] X.env = (false, eval a X.env) :: starEach [b] X.env := by rfl) (hs2 : starEach (b :: []) X.env = (false, eval b X.env) :: starEach [] X.env := by rfl)
    (hpl : (backTo pos (starEach [b] X.env)).any (·.1) = false := by rfl) : SI G p E X (.Tuple elts kk tpos) (.Call (.Name "zip" q') [a, b] [] pos) (iZip ma mb p) :=
  PI_imp (RZ.pi_zipA hg hm (pa_cons ha (pa1 hb hs2) hs) hs hpl) fun σ H R' ⟨ρ, l, s, rl, rp, h⟩ => by
    unfold iZip at h
    refine ⟨ρ, l, s, rl, rp, PoA.bind h fun w s1 ρ1 H1 v x1 rp1 rv1 h1 => ⟨ρ1, l, s1, rl.mono x1, rp1, PoA.bind h1 fun u s2 ρ2 H2 v2 x2 rp2 rv2 h2 => ?_⟩⟩
    cases rv1 with
    | @ref n a' e =>
      cases rv2 with
      | @ref m b' e' =>
        dsimp only at h2
        cases q : cellItems p s2 n with
        | none => rw [q] at h2; exact h2.elim
        | some ws =>
          cases q' : cellItems p s2 m with
          | none => rw [q, q'] at h2; exact h2.elim
          | some us =>
            rw [q, q'] at h2
            obtain ⟨vs, hs, r⟩ := cell_seq (K := X.K) rp2 q (x2.get e)
            obtain ⟨vs', hs', r'⟩ := cell_seq (K := X.K) rp2 q' e'
            exact ⟨a', b', vs, vs', rfl, .inl ⟨hs, hs', h2 ρ2 H2 _ Ex.rfl' rp2 (ri_zip (x2.get e) e')⟩⟩
      | _ => exact h2.elim
    | _ => exact h2.elim
end
end CC
set_option Elab.async false
set_option linter.all false
set_option maxRecDepth 100000
/-! CCSub3: += of names, dicts, list(range(..)) -/
namespace CC
open PySem PySem.Spec PyProof.Rows L2

def gISub (p : Hh) (x y : W) (s : S) : O2 := match x, y with
  | .int i, .int j => some (.int (i - j), s)
  | _, _ => none
def gIMul (p : Hh) (x y : W) (s : S) : O2 := match x, y with
  | .int i, .int j => if i64 i || i64 j then some (.int (i * j), s) else none
  | _, _ => none
/-- {} with keys that are numbers and texts; with keys that are tuples of such -/
def eDct (p : Hh) : Lo → S → R W := fun _ s => .ok (.ref (nxt p s)) (al s (.dct []))
def eDtt (p : Hh) : Lo → S → R W := fun _ s => .ok (.ref (nxt p s)) (al s (.dtt []))
def isDic (p : Hh) (s : S) (w : W) : Bool := match w with
  | .ref n => (match rd p s n with
    | some (.dct _) => true
    | some (.dtt _) => true
    | _ => false)
  | _ => false
def eGet2 (p : Hh) (mo mi md : Lo → S → R W) : Lo → S → R W := fun l s => (mo l s).bind fun o s1 => if isDic p s1 o then (mi l s1).bind fun i s2 => (md l s2).bind fun d s3 => (match gDic p o i s3 with
  | some (some w) => .ok w s3
  | some none => .ok d s3
  | none => .bad) else .bad
def eGet1 (p : Hh) (mo mi : Lo → S → R W) : Lo → S → R W := fun l s => (mo l s).bind fun o s1 => if isDic p s1 o then (mi l s1).bind fun i s2 => (match gDic p o i s2 with
  | some (some w) => .ok w s2
  | some none => .ok .non s2
  | none => .bad) else .bad
def rngW (lo c : Int) : Nat → List W
  | 0 => []
  | n + 1 => .int lo :: rngW (lo + c) c n
def eRgL (p : Hh) (mi : Lo → S → R ItD) : Lo → S → R W := fun l s => (mi l s).bind fun d s1 => match d with
  | .rng lo c n => if n ≤ 1000000 then .ok (.ref (nxt p s1)) (al s1 (.lst (rngW lo c n))) else .bad
  | _ => .bad
section
variable {G : GE} {X : Cx} {ρ : List Addr} {H : Hp} {p : Hh} {s : S} {E : WX} {a b o i d e : Expr} {ma mb mo mi md : Lo → S → R W} {pos apos cpos q' q2 : Pos}
theorem i_iadd : IpI G X .Add gIAdd := by
  intro p pins sh σ H v u v' u' Q I rv ru ⟨ρ, s, x, y, rp, r1, r2, h⟩
  unfold gIAdd at h
  cases r1 with
  | int i => cases r2 with
    | int j => exact iop_add pins sh σ H _ _ v' u' Q I rv ru ⟨i, j, rfl, rfl, po_v h rp (.int _)⟩
    | _ => exact h.elim
  | @ref n a e => cases r2 with
    | @ref m b e' =>
      dsimp only at h
      split at h
      · rename_i ws us hx hy
        split at h
        · rename_i hl
          obtain ⟨vs, hv, r⟩ := lst_at rp hx e
          obtain ⟨zs, hz, r'⟩ := lst_at rp hy e'
          exact iop_ext pins sh σ H _ _ v' u' Q I rv ru ⟨a, b, vs, zs, rfl, rfl, hv, hz, by rw [← r.len, ← r'.len]; exact million hl, po_wr rp e h (fun x => .lst ((r.mono x).app (r'.mono x))) fun x => .ref e⟩
        · exact h.elim
      · exact h.elim
    | _ => exact h.elim
  | _ => exact h.elim
theorem i_isub : IpI G X .Sub gISub := by
  intro p pins sh σ H v u v' u' Q I rv ru ⟨ρ, s, x, y, rp, r1, r2, h⟩
  unfold gISub at h
  cases r1 with
  | int i => cases r2 with
    | int j => exact iop_sub pins sh σ H _ _ v' u' Q I rv ru ⟨i, j, rfl, rfl, po_v h rp (.int _)⟩
    | _ => exact h.elim
  | _ => exact h.elim
theorem i_imul : IpI G X .Mult gIMul := by
  intro p pins sh σ H v u v' u' Q I rv ru ⟨ρ, s, x, y, rp, r1, r2, h⟩
  unfold gIMul at h
  cases r1 with
  | int i => cases r2 with
    | int j =>
      dsimp only at h
      split at h
      · rename_i hc
        exact iop_mul pins sh σ H _ _ v' u' Q I rv ru ⟨i, j, rfl, rfl, i64_ok hc, po_v h rp (.int _)⟩
      · exact h.elim
    | _ => exact h.elim
  | _ => exact h.elim
theorem se_dct : SE G p E X (.Dict [] [] pos) (eDct p) := PE_imp pe_dnewK fun σ H Q ⟨ρ, l, s, rl, rp, h⟩ q hq => by
  have x : Ex ρ H (ρ ++ [q]) (upd H q (.dK [])) := Ex.al rp hq
  obtain ⟨_, r2, r3⟩ := rp.al_ (o := .dct []) (u := .dK []) hq (.dK rfl .nil)
  exact h _ _ _ x r2 r3
theorem se_dtt : SE G p E X (.Dict [] [] pos) (eDtt p) := PE_imp pe_dnewT fun σ H Q ⟨ρ, l, s, rl, rp, h⟩ q hq => by
  have x : Ex ρ H (ρ ++ [q]) (upd H q (.dT [])) := Ex.al rp hq
  obtain ⟨_, r2, r3⟩ := rp.al_ (o := .dtt []) (u := .dT []) hq (.dT rfl .nil)
  exact h _ _ _ x r2 r3
theorem isD_of {w : W} {v : V} (rp : Rep G ρ p s H) (r : RV G ρ H w v) (h : isDic p s w = true) : ∃ a, v = .ref a ∧ IsD H a := by
  cases r with
  | @ref n a e =>
    simp only [isDic] at h
    cases z : rd p s n with
    | none => rw [z] at h; cases h
    | some ob =>
      rw [z] at h
      obtain ⟨u, hu, q⟩ := rp.at z e
      cases q with
      | @dK kvs ks q1 q2 => exact ⟨a, rfl, .inl ⟨ks, .inl hu⟩⟩
      | @dT kvs ks q1 q2 => exact ⟨a, rfl, .inr ⟨ks, .inl hu⟩⟩
      | _ => cases h
  | _ => cases h
theorem se_get2 (hu : X.A.units + 1 < cLine) (ho : SE G p E X o mo) (hi : SE G p E X i mi) (hd : SE G p E X d md) (m : M2 X o "get" apos i d cpos) : SE G p E X (.Call (.Attribute o "get" apos) [i, d] [] cpos) (eGet2 p mo mi md) :=
  PE_imp (pe_dget2 hu ho hi hd m) fun σ H Q ⟨ρ, l, s, rl, rp, h⟩ => by
    unfold eGet2 at h
    refine ⟨ρ, l, s, rl, rp, PoA.bind h fun w s1 ρ1 H1 v x1 rp1 rv1 h1 => ?_⟩
    split at h1
    · rename_i hdd
      obtain ⟨a, rfl, hda⟩ := isD_of rp1 rv1 hdd
      refine ⟨a, rfl, hda, ρ1, l, s1, rl.mono x1, rp1, PoA.bind h1 fun w2 s2 ρ2 H2 v2 x2 rp2 rv2 h2 => ⟨ρ2, l, s2, (rl.mono x1).mono x2, rp2, PoA.bind h2 fun w3 s3 ρ3 H3 v3 x3 rp3 rv3 h3 => ?_⟩⟩
      cases g : gDic p w w2 s3 with
      | none => rw [g] at h3; exact h3.elim
      | some r =>
        obtain ⟨a', r', e, dg, n1, n2⟩ := dic_at rp3 ((rv1.mono x2).mono x3) (rv2.mono x3) g
        cases e
        rw [g] at h3
        refine ⟨r', dg, ?_⟩
        cases r with
        | none =>
          rw [n1 rfl]
          exact h3 ρ3 H3 _ Ex.rfl' rp3 rv3
        | some w4 =>
          obtain ⟨v4, rfl, rv4⟩ := n2 w4 rfl
          exact h3 ρ3 H3 _ Ex.rfl' rp3 rv4
    · exact h1.elim
theorem se_get1 (hu : X.A.units + 1 < cLine) (ho : SE G p E X o mo) (hi : SE G p E X i mi) (m : M1 X o "get" apos i cpos) : SE G p E X (.Call (.Attribute o "get" apos) [i] [] cpos) (eGet1 p mo mi) :=
  PE_imp (pe_dget1 hu ho hi m) fun σ H Q ⟨ρ, l, s, rl, rp, h⟩ => by
    unfold eGet1 at h
    refine ⟨ρ, l, s, rl, rp, PoA.bind h fun w s1 ρ1 H1 v x1 rp1 rv1 h1 => ?_⟩
    split at h1
    · rename_i hdd
      obtain ⟨a, rfl, hda⟩ := isD_of rp1 rv1 hdd
      refine ⟨a, rfl, hda, ρ1, l, s1, rl.mono x1, rp1, PoA.bind h1 fun w2 s2 ρ2 H2 v2 x2 rp2 rv2 h2 => ?_⟩
      cases g : gDic p w w2 s2 with
      | none => rw [g] at h2; exact h2.elim
      | some r =>
        obtain ⟨a', r', e, dg, n1, n2⟩ := dic_at rp2 (rv1.mono x2) rv2 g
        cases e
        rw [g] at h2
        refine ⟨r', dg, ?_⟩
        cases r with
        | none =>
          rw [n1 rfl]
          exact h2 ρ2 H2 _ Ex.rfl' rp2 .non
        | some w4 =>
          obtain ⟨v4, rfl, rv4⟩ := n2 w4 rfl
          exact h2 ρ2 H2 _ Ex.rfl' rp2 rv4
    · exact h1.elim
/-! range as a list -/
theorem rngW_ok {lo c : Int} : ∀ {n : Nat} {k : Nat}, RVs G ρ H (rngW (lo + (k : Nat) * c) c n) ((List.range' k n).map fun i => V.int (lo + (i : Nat) * c))
  | 0, k => .nil
  | n + 1, k => by
    simp only [rngW, List.range'_succ, List.map_cons]
    refine .cons (.int _) ?_
    have e : lo + (k : Nat) * c + c = lo + ((k + 1 : Nat) : Int) * c := by
      have : ((k + 1 : Nat) : Int) = (k : Int) + 1 := by omega
      rw [this, Int.add_mul, Int.one_mul, Int.add_assoc]
    rw [e]
    exact rngW_ok
/-- an expression that makes a range -/
def PRc (X : Cx) (e : Expr) (t : L2.St → Hp → (Int → Int → Nat → Hp → Prop) → Prop) : Prop :=
  ∀ (pins : List (Addr × Obj)) (s : Shared) (σ : L2.St) (H : Hp) (Q : Int → Int → Nat → Hp → Prop), Inv X pins σ H s → t σ H Q →
    wpAny (model X.prog X.w) X.A (eval e X.env) (fun x s' => ∃ r a b c t u v n H', x = .ref r ∧ IsRange s'.heap r a b c t u v ∧ Builtin.Range.small a b c = true ∧ Builtin.Range.rangeSize a b c = (n : Nat) ∧ Inv X pins σ H' s' ∧ Q a c n H') X.xe s
def tRc (G : GE) (p : Hh) (E : WX) (m : Lo → S → R ItD) : L2.St → Hp → (Int → Int → Nat → Hp → Prop) → Prop := fun σ H Q => ∃ ρ l s, RL G ρ H l σ ∧ Rep G ρ p s H ∧ PoA G p ρ H (fun _ _ d b => ∃ lo c n, d = .rng lo c n ∧ b = (lo, c, n)) (m l s) (fun b H' => Q b.1 b.2.1 b.2.2 H') (fun c d H' => E c d σ H')
theorem rc_1 (hm : X.mg "range" = none) (ha : SE G p E X a ma) (hg : Gl X "range" := by rfl) (na : starEach [a] X.env = (false, eval a X.env) :: starEach [] X.env := by rfl) : PRc X (.Call (.Name "range" q') [a] [] pos) (tRc G p E (iRange1 ma)) := by
  intro pins sh σ H Q I ⟨ρ, l, s, rl, rp, h⟩
  unfold iRange1 at h
  have h' := PoA.bind (rel := RV G) (Q := fun v H1 => ∃ j, v = .int j ∧ b62 j = true ∧ Q 0 1 j.toNat H1) h fun w s1 ρ1 H1 v x1 rp1 rv1 h1 => by
    cases rv1 with
    | int j =>
      dsimp only at h1
      split at h1
      · rename_i hb
        exact ⟨j, rfl, hb, h1 ρ1 H1 (0, 1, j.toNat) Ex.rfl' rp1 ⟨_, _, _, rfl, rfl⟩⟩
      · exact h1.elim
    | _ => exact h1.elim
  refine Call_ (ld_blt I hg hm boot_range (PyProof.Rows.callWith_type1 (one_arg ha I ⟨ρ, l, s, rl, rp, h'⟩ (fun v s2 x H2 I2 r q => ?_) na) na))
  obtain ⟨j, rfl, hb, q⟩ := q
  obtain ⟨t, rfl⟩ := r
  obtain ⟨b1, b2⟩ := b62_ok hb
  exact call_range_1 ⟨_, 0, j, 1, _, _, _, j.toNat, H2, rfl, IsRange.new _ _ _ _ _ _ _, small_one (by decide) (by decide) b1 b2, by simpa using rangeSize_nat 0 j, I2.kept fun b u e => Heap.get?_push_of_some _ e, q⟩
theorem rc_2 (hm : X.mg "range" = none) (ha : SE G p E X a ma) (hb : SE G p E X b mb) (hg : Gl X "range" := by rfl) (na : starEach [a, b] X.env = (false, eval a X.env) :: starEach [b] X.env := by rfl) (nb : starEach [b] X.env = (false, eval b X.env) :: starEach [] X.env := by rfl) (hp : (backTo pos (starEach [b] X.env)).any (·.1) = false := by rfl) :
    PRc X (.Call (.Name "range" q') [a, b] [] pos) (tRc G p E (iRange2 ma mb)) := by
  intro pins sh σ H Q I ⟨ρ, l, s, rl, rp, h⟩
  unfold iRange2 at h
  have h' := PoA.bind (rel := RV G) (Q := fun v H1 => tI G p E mb σ H1 fun u H2 => ∃ i j, v = .int i ∧ u = .int j ∧ b62 i = true ∧ b62 j = true ∧ Q i 1 (j - i).toNat H2) h fun w s1 ρ1 H1 v x1 rp1 rv1 h1 => ⟨ρ1, l, s1, rl.mono x1, rp1, PoA.bind h1 fun w2 s2 ρ2 H2 v2 x2 rp2 rv2 h2 => by
    cases rv1 with
    | int i =>
      cases rv2 with
      | int j =>
        dsimp only at h2
        split at h2
        · rename_i hb
          obtain ⟨c1, c2⟩ := Bool.and_eq_true_iff.mp hb
          exact ⟨i, j, rfl, rfl, c1, c2, h2 ρ2 H2 (i, 1, (j - i).toNat) Ex.rfl' rp2 ⟨_, _, _, rfl, rfl⟩⟩
        · exact h2.elim
      | _ => exact h2.elim
    | _ => exact h2.elim⟩
  refine Call_ (ld_blt I hg hm boot_range (PyProof.Rows.callWith_type1 (args_cons (thn (ha.run pins sh σ H _ I ⟨ρ, l, s, rl, rp, h'⟩) fun v s1 ⟨x, H1, I1, r1, q1⟩ => one_arg hb I1 q1 (fun u s2 y H2 I2 r2 q => ?_) nb) na) na hp))
  obtain ⟨i, j, rfl, rfl, h1, h2, q⟩ := q
  obtain ⟨t, rfl⟩ := r1
  obtain ⟨t', rfl⟩ := r2
  obtain ⟨b1, b2⟩ := b62_ok h1
  obtain ⟨b3, b4⟩ := b62_ok h2
  exact call_range_2 ⟨_, i, j, 1, _, _, _, (j - i).toNat, H2, rfl, IsRange.new _ _ _ _ _ _ _, small_one b1 b2 b3 b4, rangeSize_nat i j, I2.kept fun b u e => Heap.get?_push_of_some _ e, q⟩
theorem rc_3 {c : Expr} {mc : Lo → S → R W} (hm : X.mg "range" = none) (ha : SE G p E X a ma) (hb : SE G p E X b mb) (hc : SE G p E X c mc) (hg : Gl X "range" := by rfl) (hs : starEach [a, b, c] X.env = (false, eval a X.env) :: starEach [b, c] X.env := by rfl) (hs2 : starEach (b :: [c]) X.env = (false, eval b X.env) :: starEach [c] X.env := by rfl) (hs3 : starEach (c :: []) X.env = (false, eval c X.env) :: starEach [] X.env := by rfl)
    (hpl : (backTo pos (starEach [b, c] X.env)).any (·.1) = false := by rfl) : PRc X (.Call (.Name "range" q') [a, b, c] [] pos) (tRc G p E (iRange3 ma mb mc)) := by
  intro pins sh σ H Q I ⟨ρ, l, s, rl, rp, h⟩
  unfold iRange3 at h
  have h' : tCons (tI G p E ma) (tCons (tI G p E mb) (tCons (tI G p E mc) tNil)) σ H (fun vs H1 => ∃ (i j k : Int) (n : Nat), vs = [.int i, .int j, .int k] ∧ RgC i j k n ∧ Q i k n H1) :=
    ⟨ρ, l, s, rl, rp, PoA.bind h fun w s1 ρ1 H1 v x1 rp1 rv1 h1 => ⟨ρ1, l, s1, rl.mono x1, rp1, PoA.bind h1 fun w2 s2 ρ2 H2 v2 x2 rp2 rv2 h2 => ⟨ρ2, l, s2, (rl.mono x1).mono x2, rp2, PoA.bind h2 fun w3 s3 ρ3 H3 v3 x3 rp3 rv3 h3 => by
      cases rv1 with
      | int i =>
        cases rv2 with
        | int j =>
          cases rv3 with
          | int k =>
            dsimp only at h3
            split at h3
            · rename_i hk
              subst hk
              split at h3
              · rename_i hb
                obtain ⟨c1, c2⟩ := Bool.and_eq_true_iff.mp hb
                obtain ⟨b1, b2⟩ := b62_ok c1
                obtain ⟨b3, b4⟩ := b62_ok c2
                exact ⟨i, j, -1, _, rfl, RgC.neg b1 b2 b3 b4, h3 ρ3 H3 (i, -1, (i - j).toNat) Ex.rfl' rp3 ⟨_, _, _, rfl, rfl⟩⟩
              · exact h3.elim
            · split at h3
              · rename_i hb
                unfold rgOk at hb
                obtain ⟨hb, c4⟩ := Bool.and_eq_true_iff.mp hb
                obtain ⟨hb, c3⟩ := Bool.and_eq_true_iff.mp hb
                obtain ⟨c1, c2⟩ := Bool.and_eq_true_iff.mp hb
                exact ⟨i, j, k, _, rfl, ⟨of_decide_eq_true c1, of_decide_eq_true c2, c3, of_decide_eq_true c4⟩, h3 ρ3 H3 (i, k, (Builtin.Range.rangeSize i j k).toNat) Ex.rfl' rp3 ⟨_, _, _, rfl, rfl⟩⟩
              · exact h3.elim
          | _ => exact h3.elim
        | _ => exact h3.elim
      | _ => exact h3.elim⟩⟩⟩
  refine Call_ (ld_blt I hg hm boot_range (PyProof.Rows.callWith_type1 (thn ((pa_cons ha (pa_cons hb (pa1 hc hs3) hs2) hs).run pos pins sh σ H _ I h') fun us s1 ⟨vs, H1, I1, r1, q1⟩ => ?_) hs hpl))
  obtain ⟨i, j, k, n, e, ⟨c0, c1, c2, c3⟩, q⟩ := q1
  subst e
  cases r1 with
  | cons r rr =>
    cases rr with
    | cons r' rr =>
      cases rr with
      | cons r'' rr =>
        cases rr
        obtain ⟨t, rfl⟩ := r
        obtain ⟨t', rfl⟩ := r'
        obtain ⟨t'', rfl⟩ := r''
        exact call_range_3 c0 ⟨_, i, j, k, t, t', t'', n, H1, rfl, IsRange.new .., c2, c3, I1.kept (t' := s1.toks) fun b o e => Heap.get?_push_of_some _ e, q⟩ (.inl (PyProof.noPylong_small c1))
theorem vals_rc {a c : Int} {n : Nat} {acc : Array Value} (h : ItemsOf (fun i v => ∃ t, v = .int (a + i * c) t) acc n) : Vals ((List.range' 0 n).map fun i => V.int (a + (i : Nat) * c)) acc.toList := by
  have e : acc.toList.length = n := by rw [Array.length_toList]; exact h.1
  rw [← e, ← List.range_eq_range']
  refine vals_of_get acc.toList _ fun j u hj => ?_
  obtain ⟨t, rfl⟩ := h.2 j u (by rw [← hj, Array.getElem?_toList])
  exact ⟨t, rfl⟩
/-- list(range(..)) -/
theorem se_rgl {mi : Lo → S → R ItD} (hc : X.calm = true) (hm : X.mg "list" = none) (he : PRc X e (tRc G p E mi)) (hg : Gl X "list" := by rfl) (na : starEach [e] X.env = (false, eval e X.env) :: starEach [] X.env := by rfl) : SE G p E X (.Call (.Name "list" q') [e] [] pos) (eRgL p mi) := by
  refine ⟨fun pins sh σ H Q I ⟨ρ, l, s, rl, rp, h⟩ => ?_⟩
  unfold eRgL at h
  have h' := PoA.bind (rel := fun _ _ d b => ∃ lo c n, d = ItD.rng lo c n ∧ b = (lo, c, n)) (Q := fun (b : Int × Int × Nat) H1 => b.2.2 ≤ 1000000 ∧ ∀ q, H1 q = none → Q (.ref q) (upd H1 q (.lst ((List.range' 0 b.2.2).map fun i => V.int (b.1 + (i : Nat) * b.2.1))))) h fun d s1 ρ1 H1 v x1 rp1 rv1 h1 => by
    obtain ⟨lo, c, n, rfl, rfl⟩ := rv1
    dsimp only at h1
    split at h1
    · rename_i hn
      refine ⟨hn, fun q hq => ?_⟩
      have rr : ∀ {ρ : List Addr} {H : Hp}, RVs G ρ H (rngW lo c n) ((List.range' 0 n).map fun i => V.int (lo + (i : Nat) * c)) := fun {ρ H} => by
        have := rngW_ok (G := G) (ρ := ρ) (H := H) (lo := lo) (c := c) (n := n) (k := 0)
        simpa using this
      have x : Ex ρ1 H1 (ρ1 ++ [q]) (upd H1 q (.lst ((List.range' 0 n).map fun i => V.int (lo + (i : Nat) * c)))) := Ex.al rp1 hq
      obtain ⟨_, r2, r3⟩ := rp1.al_ (o := .lst (rngW lo c n)) hq (.lst rr)
      exact h1 _ _ _ x r2 r3
    · exact h1.elim
  refine Call_ (ld_blt I hg hm boot_list (PyProof.Rows.callWith_type1 (args_cons (thn (he pins sh σ H (fun a c n H1 => n ≤ 1000000 ∧ ∀ q, H1 q = none → Q (.ref q) (upd H1 q (.lst ((List.range' 0 n).map fun i => V.int (a + (i : Nat) * c))))) I ⟨ρ, l, s, rl, rp, h'⟩) fun x s1 ⟨r, a, b, c, t, u, v, n, H1, ex, hr, b1, b2, I1, hn, q⟩ => args_nil ?_) na) na))
  subst ex
  refine call_list_range (n := n) (I1.ok.hd hc) hr b1 b2 (by have : n ≤ 1000000 := hn; omega) fun h' tk acc c' hk e' hi => ?_
  refine ⟨.ref s1.heap.objs.size, _, I1.laid hk (Nat.le_refl _) (show ObjOk X.prog X.w _ _ _ (.lst ((List.range' 0 n).map fun i => V.int (a + (i : Nat) * c))) from ⟨?_, acc.toList, c', vals_rc hi, ?_⟩), rfl, q _ (I1.hok.fresh (Nat.le_refl _))⟩
  · rw [List.length_map, List.length_range']; exact million hn
  · rw [Array.toArray_toList]; exact e'
/-! in, of lists, tuples, dicts -/
def gInA (p : Hh) (x y : W) (s : S) : O2 := match gDic p y x s with
  | some r => some (.bl r.isSome, s)
  | none => gIn p x y s
def gNotInA (p : Hh) (x y : W) (s : S) : O2 := match gDic p y x s with
  | some r => some (.bl (!r.isSome), s)
  | none => gNotIn p x y s
theorem isSome_of {r : Option W} {r' : Option V} (n1 : r = none → r' = none) (n2 : ∀ w, r = some w → ∃ v, r' = some v ∧ RV G ρ H w v) : r'.isSome = r.isSome := by
  cases r with
  | none => rw [n1 rfl] <;> rfl
  | some w => obtain ⟨v, rfl, _⟩ := n2 w rfl; rfl
theorem i_inA (hu : X.A.units + 65 < cLine) : OpI G X (compareOp .In) gInA := by
  intro p pins sh σ H v u v' u' Q I rv ru ⟨ρ, s, x, y, rp, r1, r2, h⟩
  unfold gInA at h
  cases g : gDic p y x s with
  | none => rw [g] at h; exact i_in hu p pins sh σ H v u v' u' Q I rv ru ⟨ρ, s, x, y, rp, r1, r2, h⟩
  | some r =>
    rw [g] at h
    obtain ⟨a, r', rfl, dg, n1, n2⟩ := dic_at rp r2 r1 g
    cases ru
    refine d_in (by omega) I dg rv fun s3 I3 => ⟨.bl _, H, I3, rfl, ?_⟩
    rw [isSome_of n1 n2]
    exact po_v h rp (.bl _)
theorem i_notInA (hu : X.A.units + 65 < cLine) : OpI G X (compareOp .NotIn) gNotInA := by
  intro p pins sh σ H v u v' u' Q I rv ru ⟨ρ, s, x, y, rp, r1, r2, h⟩
  unfold gNotInA at h
  cases g : gDic p y x s with
  | none => rw [g] at h; exact i_notIn hu p pins sh σ H v u v' u' Q I rv ru ⟨ρ, s, x, y, rp, r1, r2, h⟩
  | some r =>
    rw [g] at h
    obtain ⟨a, r', rfl, dg, n1, n2⟩ := dic_at rp r2 r1 g
    cases ru
    refine d_notIn (by omega) I dg rv fun s3 I3 => ⟨.bl _, H, I3, rfl, ?_⟩
    rw [isSome_of n1 n2]
    exact po_v h rp (.bl _)
end
end CC
set_option Elab.async false
set_option linter.all false
set_option maxRecDepth 100000
/-! CCEnd: the end of a law -/
namespace CC
open PySem PySem.Spec PyProof.Rows L2

def noLists (K : PySem.W.Frag) : Bool := K.all fun p => match p.2.cls with
  | .type n => n != "list"
  | _ => true
theorem mem_lk : ∀ {K : List (Addr × Obj)} {a : Addr} {o : Obj}, K.lookup a = some o → (a, o) ∈ K
  | [], _, _, h => by cases h
  | (b, u) :: r, a, o, h => by
    rw [List.lookup_cons] at h
    cases hb : a == b with
    | true => rw [hb] at h; cases h; rw [eq_of_beq hb]; exact .head _
    | false => rw [hb] at h; exact .tail _ (mem_lk h)
theorem noLists_ok {K : PySem.W.Frag} (h : noLists K = true) {a : Addr} {o : Obj} (e : K.lookup a = some o) (c : o.cls = .type "list") : False := by
  have h2 := List.all_eq_true.mp h (a, o) (mem_lk e)
  simp only at h2
  rw [c] at h2
  exact absurd h2 (by decide)
/-- the law's answer -/
def Yes (r : R W) : Prop := ∃ s, r = .ok (.bl true) s
theorem yes_of {G : GE} {F : Hh → List W → R W} {H : Hp} {a : Addr} {o : Obj} {ns : List Int} (h : Yes (F [.frz ns] [.ref 0])) (e : H a = some (.frz o (.lst (ns.map V.int)))) (E : XK) : spI G F [.ref a] H (fun v _ => v = .bl true) E := by
  refine ⟨[a], [.frz ns], [.ref 0], .cons (.ref rfl) .nil, ⟨rfl, by simp, fun n ob hn => ?_⟩, ?_⟩
  · unfold rd at hn
    cases n with
    | zero =>
      simp [lookN] at hn
      subst hn
      exact ⟨a, _, rfl, e, .frz⟩
    | succ n => simp at hn
  · obtain ⟨s, hs⟩ := h
    rw [hs]
    intro ρ' H' v _ _ rv
    cases rv
    rfl
/-- what the law's def is, over every base -/
def FLaw (G : GE) (P : Program) (w : World) (K : PySem.W.Frag) (mg : Str → Option Value) (k : Nat) (fa : Addr) (x : Str) (Fm : Hh → List W → R W) : Prop :=
  ∃ fd : FuncData, (∀ (s : Shared) (u : Value), BindsTo s fd ⟨[u], []⟩ [(x, u)]) ∧ ∀ base : Heap, K.In base → base.Ns mainGlobals mg → FnG P w K mg base k fa fd [x] (spI G Fm)
theorem law_run {G : GE} {P : Program} {w : World} {K : PySem.W.Frag} {mg mb : Str → Option Value} {k : Nat} {fa a : Addr} {x : Str} {Fm : Hh → List W → R W} {s₁ : Shared} {vs : List Value} {ns : List Int}
    (KX : K.In s₁.heap) (nl : noLists K = true) (hns : s₁.heap.Ns mainGlobals mg) (hb : s₁.heap.Ns builtinsNs mb) (hbb : ∀ x : Str, x ≠ "__name__" → mb x = bootBuiltins x) (hlim : s₁.heap.NoLimit) (hg : s₁.gens = #[])
    (ha : s₁.heap.get? a = some { cls := .type "list", data := .seq vs.toArray }) (hi : IntsAre vs ns) (hl : ns.length ≤ sizeLine) (hr : Room k callerA) (F : FLaw G P w K mg k fa x Fm) (yes : Yes (Fm [.frz ns] [.ref 0])) :
    codeAny (model P w) callerA (.call (.ref fa) ⟨[.ref a], []⟩) (fun r s' => r = .ok (.ret (.bool true)) ∧ OldK s₁.heap s'.heap ∧ s'.os = s₁.os ∧ AllBare s'.gens) s₁ := by
  obtain ⟨fd, bnd, F⟩ := F
  obtain ⟨H, eH⟩ : ∃ H : Hp, H = fun b => if b = a then some (.frz { cls := .type "list", data := .seq vs.toArray } (.lst (ns.map V.int))) else none := ⟨_, rfl⟩
  have Ha : H a = some (.frz { cls := .type "list", data := .seq vs.toArray } (.lst (ns.map V.int))) := by rw [eH]; exact if_pos rfl
  have Hn : ∀ {b}, b ≠ a → H b = none := fun {b} n => by rw [eH]; exact if_neg n
  have Hc : ∀ {b u}, H b = some u → b = a ∧ u = .frz { cls := .type "list", data := .seq vs.toArray } (.lst (ns.map V.int)) := fun {b u} z => by
    by_cases e : b = a
    · subst e; rw [Ha] at z; cases z; exact ⟨rfl, rfl⟩
    · rw [Hn e] at z; cases z
  have nsK : ∀ {b : Addr} {m : Str → Option Value}, s₁.heap.Ns b m → (hidT s₁.heap H).Ns b m := fun {b m} ⟨o, es, ep, e, d, r⟩ => ⟨o, es, ep, hidT_get e (Hn fun z => by
    subst z
    rw [ha] at e; cases e
    have d' : Data.seq vs.toArray _ = Data.dict es ep := d
    cases d'), d, r⟩
  have hKb : K.In (hidT s₁.heap H) := fun b o e => hidT_get (KX b o e) (Hn fun z => by
    subst z
    have e2 := KX b o e
    rw [ha] at e2
    cases e2
    exact noLists_ok nl e rfl)
  have hM : Mod K mg (hidT s₁.heap H) := ⟨hKb, nsK hns, ⟨mb, nsK hb, hbb⟩, let ⟨mc, h1, h2⟩ := hlim; ⟨mc, nsK h1, h2⟩⟩
  have hok : HOk P w H s₁.heap := fun b u z => by
    obtain ⟨rfl, rfl⟩ := Hc z
    exact ⟨ha, by rw [List.length_map]; exact hl, vs, _, vals_ints hi, ha⟩
  have e0 : Env0 P w K mg (hidT s₁.heap H) callerA [] s₁ H := ⟨rfl, hM, fun b o e => of_hidT e, Nat.le_of_eq (hidT_size _ _), trivial, fun b hb => absurd (show b ∈ ([] : List Addr) from hb) (by simp), hok, .of_eq hg⟩
  refine codeAny_mono ((F _ hKb (nsK hns)).run callerA [] s₁ H ⟨[.ref a], []⟩ [.ref a] [.ref a] _ _ hr rfl e0 (bnd s₁ (.ref a)) (.cons rfl .nil) (yes_of yes Ha (fun _ _ _ => False))) fun r s' h => ?_
  cases r with
  | error e =>
    obtain ⟨_, _, _, _, _, _, _, _, _, _, _, _, z⟩ := h
    exact z.elim
  | ok fl =>
    cases fl with
    | ret u =>
      obtain ⟨v, H', os, bare, un, hok', r', q⟩ := h
      have q' : v = .bl true := q
      subst q'
      obtain rfl : u = Value.bool true := r'
      refine ⟨rfl, OldK.of_keep fun b o e => ?_, os, bare⟩
      cases q : H b with
      | none => exact un.keep b o e q (by intro z; exact absurd (show b ∈ ([] : List Addr) from z) (by simp)) (by simp)
      | some u =>
        obtain ⟨rfl, rfl⟩ := Hc q
        obtain ⟨e2, _⟩ := hok' b _ (un.frzs b _ _ q)
        rw [ha] at e
        cases e
        exact e2
    | _ => exact False.elim h
/-- THE END: the goal that is left behind k_head, k_fill -/
theorem law_end {l : PySem.W.OpenLaw} {k : Nat} {q : Program} {loose : List Str} {XP : (Str → Option Value) → Heap → Prop} {YP : World → Heap → Prop} {d : DefRec} {K : Params → PySem.W.Frag} {x : Str} {Fm : Hh → List W → R W} (hn : l.most = some 63) (hdf : d.params.defaults = []) (hr : Room k callerA)
    (hY : ∀ (w : World) (h : Heap), YP w h → (K w.params).In h)
    (F : ∀ (w : World) (mg : Str → Option Value) (fa : Addr) (h : Heap), (K w.params).In h → h.Ns mainGlobals mg → mg d.name = some (.ref fa) → noLists (K w.params) = true ∧ ∃ G : GE, FLaw G l.prog w (K w.params) mg k fa x Fm) (yes : ∀ ns : List Int, ns.length ≤ 63 → Yes (Fm [.frz ns] [.ref 0])) :
    PySem.W.WalkO q loose XP YP l.row.toRowW d [] (fun f vs => PySem.call f vs) := by
  refine Att.attach_call hn hdf fun w s₀ s₁ mg mb fa o pm cd doc a vs ns G Y ho hd hcd hmg hobj hints hlen hg => ?_
  have KX := hY w _ Y
  obtain ⟨nl, GG, hF⟩ := F w mg fa _ KX G.T.g hmg
  exact law_run KX nl G.T.g G.T.b G.T.builtins G.T.nolimit hg hobj hints (Nat.le_trans hlen (by decide)) hr hF (yes ns hlen)
end CC
set_option Elab.async false
set_option linter.all false
set_option maxRecDepth 100000
/-! CCGen: what the printed derivations use -/
namespace CC
open PySem PySem.Spec PyProof.Rows L2

section
variable {X : Cx} {E : WX} {k : Nat}
theorem Cn.u65 (cn : Cn X E k) : X.A.units + 65 < cLine := by have := cn.room.un; omega
theorem Cn.u64 (cn : Cn X E k) : X.A.units + 64 < cLine := by have := cn.room.un; omega
theorem Cn.u1 (cn : Cn X E k) : X.A.units + 1 < cLine := by have := cn.room.un; omega
theorem Cn.u0 (cn : Cn X E k) : X.A.units < cLine := by have := cn.room.un; omega
end
section
variable {G : GE} {p : Hh} {E : WX} {X : Cx} {pos : Pos} {k : Nat} {a b c : Expr} {mr : Lo → S → R (List W)}
/-- what the law never reaches (or what has no rule): its mirror is bad -/
def eBad : Lo → S → R W := fun _ _ => .bad
def sBad : Lo → S → RS := fun _ _ => .bad
theorem se_bad {e : Expr} : SE G p E X e eBad := ⟨fun _ _ _ _ _ _ ⟨_, _, _, _, _, h⟩ => h.elim⟩
theorem ss_bad {st : Stmt} : SS G p E X st sBad := ⟨fun _ _ _ _ _ _ ⟨_, _, _, _, _, h⟩ => h.elim⟩
def sPar3 (i j n : Nat) (mr : Lo → S → R (List W)) : Lo → S → RS := fun l s => match mr l s with
  | .ok [x, y, z] s1 => .nx (((l.set i (some x)).set j (some y)).set n (some z)) s1
  | .exc c w s1 => .exc c w l s1
  | _ => .bad
theorem ss_par3 (i j n : Nat) {x y z : Str} {px py pz pt : Pos} {kt k2 pt2} (hc : X.calm = true) (hN : X.N.Nodup) (ha : SA G p E X [a, b, c] mr) (hi : X.N[i]? = some x := by rfl) (hj : X.N[j]? = some y := by rfl) (hn : X.N[n]? = some z := by rfl) (hij : i ≠ j := by decide) (hin : i ≠ n := by decide) (hjn : j ≠ n := by decide)
    (hx : X.env.scope.names.lookup x = some .local := by rfl) (hy : X.env.scope.names.lookup y = some .local := by rfl) (hz : X.env.scope.names.lookup z = some .local := by rfl)
    (hw : swappedStores [.Tuple [.Name x px, .Name y py, .Name z pz] kt pt] (.Tuple [a, b, c] k2 pt2) X.env = pure (some [x, y, z]) := by rfl)
    (hs : swapsWithSole [.Tuple [.Name x px, .Name y py, .Name z pz] kt pt] (.Tuple [a, b, c] k2 pt2) pos.line X.env = pure false := by rfl) (hh : G.hold ≠ some i := by intro z; cases z) (hh2 : G.hold ≠ some j := by intro z; cases z) (hh3 : G.hold ≠ some n := by intro z; cases z) :
    SS G p E X (.Assign [.Tuple [.Name x px, .Name y py, .Name z pz] kt pt] (.Tuple [a, b, c] k2 pt2) pos) (sPar3 i j n mr) :=
  PS_imp (ps_par3 hc hN hi hj hn hij hin hjn hx hy hz ha hw hs) fun D σ H ⟨ρ, l, s, rl, rp, h⟩ => ⟨ρ, l, s, rl, rp, by
    unfold sPar3 at h
    cases e : mr l s with
    | bad => rw [e] at h; exact h.elim
    | exc c w s1 => rw [e] at h; exact fun ρ' H' d x y z => h ρ' H' d σ x y z (rl.mono x)
    | ok ws s1 =>
      rw [e] at h
      refine fun ρ1 H1 vs x1 rp1 rv1 => ?_
      match ws, vs, rv1, h with
      | [], _, _, h => exact h.elim
      | [_], _, _, h => exact h.elim
      | [_, _], _, _, h => exact h.elim
      | [w1, w2, w3], _, .cons r1 (.cons r2 (.cons r3 .nil)), h => exact ⟨_, _, _, rfl, h ρ1 H1 _ x1 rp1 ((((rl.mono x1).set i r1 hh).set j r2 hh2).set n r3 hh3)⟩
      | _ :: _ :: _ :: _ :: _, _, _, h => exact h.elim⟩
end
section
variable {G : GE} {P : Program} {w : World} {K : PySem.W.Frag} {mg : Str → Option Value} {base : Heap} {k : Nat} {f : Addr} {Fm : Hh → List W → R W} {dws : List W}
theorem FC.mono {j : Nat} (F : FC G P w K mg base j f Fm dws) (h : j ≤ k) : FC G P w K mg base k f Fm dws := by
  obtain ⟨⟨fd, ps, dvs, ds, a, b, c, d⟩, kp⟩ := F
  exact ⟨⟨fd, ps, dvs, ds, a.mono h, b, c, d⟩, kp⟩
/-- a def of the text, behind the top -/
def KD (K : PySem.W.Frag) (x qual : Str) (st : Stmt) (f : Addr) : Prop := ∃ fd, Fun K x qual st f fd
theorem kd_mk {x qual : Str} {st : Stmt} {f : Addr} {oc : Value} {od an : Option Addr} {osl : Array (Option Value)} {kV doc pm cdv ct : Value} (l : K.lookup f = some ⟨oc, od, .func (PySem.W.fnOf x qual (defArgs st) (defBody st) (defScope st) .none kV doc pm an cdv ct), osl⟩)
    (c : PySem.W.codeIn K cdv qual = true) (k : PySem.W.keepIn K (.ref f) = true) : KD K x qual st f := ⟨_, fun_mk l c k⟩
theorem fc_mk {x qual : Str} {st : Stmt} {fd : FuncData} {ps : List Str} (F : Fun K x qual st f fd) (g : FnG P w K mg base k f fd ps (spI G Fm)) (b : Binds K fd ps []) : FC G P w K mg base k f Fm [] := ⟨⟨fd, ps, [], [], g, b, .nil, fun _ _ => .nil⟩, F.kp⟩
/-- a def with a default for its last parameter(s) -/
def KDD (K : PySem.W.Frag) (x qual : Str) (st : Stmt) (dvs : List V) (f : Addr) : Prop := ∃ fd, FunD K x qual (defArgs st) (defBody st) (defScope st) dvs [] f fd
theorem kdd_mk {x qual : Str} {st : Stmt} {f T : Addr} {oc tc : Value} {od an td : Option Addr} {osl tsl : Array (Option Value)} {kV doc pm cdv ct : Value} {its : List Value} {n : Nat} {dvs : List V} (l : K.lookup f = some ⟨oc, od, .func (PySem.W.fnOf x qual (defArgs st) (defBody st) (defScope st) (.ref T) kV doc pm an cdv ct), osl⟩)
    (c : PySem.W.codeIn K cdv qual = true) (k : PySem.W.keepIn K (.ref f) = true) (t : K.lookup T = some ⟨tc, td, .seq its.toArray n, tsl⟩) (r : Vals dvs its) (ne : dvs ≠ []) : KDD K x qual st dvs f :=
  ⟨_, ⟨⟨oc, od, .ref T, kV, doc, pm, an, cdv, ct, osl, rfl, l, c, .inr ⟨ne, T, _, its, n, rfl, t, rfl, r⟩, .inl rfl⟩, k⟩⟩
theorem fcd_mk {x qual : Str} {st : Stmt} {fd : FuncData} {ps : List Str} {dvs : List V} {dws : List W} {j : Nat} (F : FunD K x qual (defArgs st) (defBody st) (defScope st) dvs [] f fd) (g : FnG P w K mg base k f fd ps (spI G Fm)) (b : ∃ ds, Vals (dvs.drop j) ds ∧ Binds K fd ps ds) (r : ∀ ρ H, RVs G ρ H dws (dvs.drop j)) : FC G P w K mg base k f Fm dws := by
  obtain ⟨ds, h1, h2⟩ := b
  exact ⟨⟨fd, ps, _, ds, g, h2, h1, r⟩, F.kp⟩
end
section
variable {X : Cx} {K : PySem.W.Frag}
theorem ctg_1 {i : Nat} {x : Str} {pos : Pos} (hc : X.calm = true) (hN : X.N.Nodup) (hi : X.N[i]? = some x := by rfl) (hx : Loc X.env.scope x := by first | exact .inl rfl | exact .inr rfl) (hf : X.fn x = true ∨ X.env.scope.names.lookup x = some .local := by first | exact .inr rfl | exact .inl rfl) : PG X (.Name x pos) ((CTg.nm i).tg X.K) := pg_name hN hi hx hf
theorem ctg_2 {i j : Nat} {x y : Str} {px py pos : Pos} {kk : Nat} (hc : X.calm = true) (hN : X.N.Nodup) (hi : X.N[i]? = some x := by rfl) (hx : Loc X.env.scope x := by first | exact .inl rfl | exact .inr rfl) (hf : X.fn x = true ∨ X.env.scope.names.lookup x = some .local := by first | exact .inr rfl | exact .inl rfl)
    (hj : X.N[j]? = some y := by rfl) (hy : Loc X.env.scope y := by first | exact .inl rfl | exact .inr rfl) (hg : X.fn y = true ∨ X.env.scope.names.lookup y = some .local := by first | exact .inr rfl | exact .inl rfl)
    (hs : (assignEach (.Name x px :: [.Name y py]) X.env).map (·.2) = assign (.Name x px) X.env :: (assignEach [.Name y py] X.env).map (·.2) := by rfl) (hs2 : (assignEach (.Name y py :: []) X.env).map (·.2) = assign (.Name y py) X.env :: (assignEach [] X.env).map (·.2) := by rfl) (hn : (assignEach [.Name x px, .Name y py] X.env).length = 2 := by rfl) (hst : (assignEach [.Name x px, .Name y py] X.env).findIdx? (·.1) = none := by rfl) :
    PG X (.Tuple [.Name x px, .Name y py] kk pos) ((CTg.pr i j).tg X.K) := pg_tup hc (pgs_cons (pg_name hN hi hx hf) (pgs_cons (pg_name hN hj hy hg) pgs_nil hs2) hs) hn hst
theorem ctg_3 {i j n : Nat} {x y z : Str} {px py pz pos : Pos} {kk : Nat} (hc : X.calm = true) (hN : X.N.Nodup) (hi : X.N[i]? = some x := by rfl) (hx : Loc X.env.scope x := by first | exact .inl rfl | exact .inr rfl) (hf : X.fn x = true ∨ X.env.scope.names.lookup x = some .local := by first | exact .inr rfl | exact .inl rfl)
    (hj : X.N[j]? = some y := by rfl) (hy : Loc X.env.scope y := by first | exact .inl rfl | exact .inr rfl) (hg : X.fn y = true ∨ X.env.scope.names.lookup y = some .local := by first | exact .inr rfl | exact .inl rfl)
    (hk : X.N[n]? = some z := by rfl) (hz : Loc X.env.scope z := by first | exact .inl rfl | exact .inr rfl) (hh : X.fn z = true ∨ X.env.scope.names.lookup z = some .local := by first | exact .inr rfl | exact .inl rfl)
    (hs : (assignEach (.Name x px :: [.Name y py, .Name z pz]) X.env).map (·.2) = assign (.Name x px) X.env :: (assignEach [.Name y py, .Name z pz] X.env).map (·.2) := by rfl) (hs2 : (assignEach (.Name y py :: [.Name z pz]) X.env).map (·.2) = assign (.Name y py) X.env :: (assignEach [.Name z pz] X.env).map (·.2) := by rfl)
    (hs3 : (assignEach (.Name z pz :: []) X.env).map (·.2) = assign (.Name z pz) X.env :: (assignEach [] X.env).map (·.2) := by rfl) (hn : (assignEach [.Name x px, .Name y py, .Name z pz] X.env).length = 3 := by rfl) (hst : (assignEach [.Name x px, .Name y py, .Name z pz] X.env).findIdx? (·.1) = none := by rfl) :
    PG X (.Tuple [.Name x px, .Name y py, .Name z pz] kk pos) ((CTg.tr i j n).tg X.K) := pg_tup hc (pgs_cons (pg_name hN hi hx hf) (pgs_cons (pg_name hN hj hy hg) (pgs_cons (pg_name hN hk hz hh) pgs_nil hs3) hs2) hs) hn hst
end
def blkB (N : List Str) (sc scope : Scope) (own : List (Str × Nat)) : Bool :=
  decide (scope.kind = .function) && scope.names.all (fun y => decide (scope.names.lookup y.1 = some y.2)) && own.all (fun p => decide (N[p.2]? = some p.1)) &&
  scope.names.all (fun y => !decide (y.2 = .free) || (decide (sc.names.lookup y.1 = some .cell) || decide (sc.names.lookup y.1 = some .free))) &&
  scope.names.all (fun y => !(decide (y.2 = .local) || decide (y.2 = .cell)) || ((own.map (·.1)).contains y.1 || !N.contains y.1))
theorem blk_ok {N : List Str} {sc scope : Scope} {own : List (Str × Nat)} (h : blkB N sc scope own = true) : BlkOk N sc scope own := by
  unfold blkB at h
  simp only [Bool.and_eq_true, List.all_eq_true, decide_eq_true_eq, Bool.or_eq_true, Bool.not_eq_true', decide_eq_false_iff_not, List.contains_iff_mem] at h
  obtain ⟨⟨⟨⟨h1, h2⟩, h3⟩, h4⟩, h5⟩ := h
  refine ⟨h1, h2, h3, fun y hy e => (h4 y hy).resolve_left (fun n => n e), fun y hy e => ?_⟩
  rcases h5 y hy with h | h | h
  · exact absurd e (by
      intro z
      rcases z with z | z <;> simp [z] at h)
  · exact .inl h
  · exact .inr (by simpa using h)
theorem se_gint {G : GE} {p : Hh} {E : WX} {X : Cx} {x : Str} {i : Int} {t : Tok} {pos : Pos} (hm : X.mg x = some (.int i t)) (hg : Gl X x := by rfl) (hd : (x == ("__debug__" : Str)) = false := by decide) : SE G p E X (.Name x pos) (eC (.int i)) :=
  se_of (pe_glob hg hm (v := .int i) ⟨t, rfl⟩ hd) fun _ _ => .int i
end CC
set_option Elab.async false
set_option linter.all false
set_option maxRecDepth 100000
/-! CCOwn: == by an own __eq__ -/
namespace CC
open PySem PySem.Spec PyProof.Rows L2

def gEqO (c : Nat) (Fm : Hh → List W → R W) (p : Hh) (x y : W) (s : S) : O2 := match isC p s c x with
  | false => gEq p x y s
  | true => (match isC p s c y with
    | false => none
    | true => (match callF Fm p [x, y] s with
      | .ok (.bl b) s' => some (.bl b, s')
      | _ => none))
section
variable {G : GE} {X : Cx} {k c : Nat} {f : Addr} {Fm : Hh → List W → R W} {E : WX}
theorem i_eqO (FF : FC G X.prog X.w X.K X.mg X.base k f Fm []) (cn : Cn X E k) (hs : PySem.W.findIn X.K (.ref (G.cls c)) "__eq__" = some (some (.ref f))) (hf : PySem.W.isFn X.K (.ref f) = true) : OpI G X (compareOp .Eq) (gEqO c Fm) := by
  intro p pins s σ H v u v' u' Q I rv ru ⟨ρ, s0, x, y, rp, r1, r2, q⟩
  unfold gEqO at q
  cases e1 : isC p s0 c x with
  | false => rw [e1] at q; exact i_eq cn.u64 p pins s σ H v u v' u' Q I rv ru ⟨ρ, s0, x, y, rp, r1, r2, q⟩
  | true =>
    rw [e1] at q
    cases e2 : isC p s0 c y with
    | false => rw [e2] at q; exact q.elim
    | true =>
      rw [e2] at q
      dsimp only at q
      obtain ⟨a, dx, gs, rfl, ha, _⟩ := obj_at rp r1 e1
      obtain ⟨b, dy, gs', rfl, hb, _⟩ := obj_at rp r2 e2
      cases rv
      cases ru
      obtain ⟨mA, J, _⟩ := ins_get I.hok ha
      obtain ⟨mB, J', _⟩ := ins_get I.hok hb
      obtain ⟨od, J, _⟩ := J.look
      obtain ⟨od', J', _⟩ := J'.look
      obtain ⟨m, hF⟩ := I.fr
      show wpAny (model X.prog X.w) X.A (richCompare .Eq (.ref a) (.ref b)) (EP X pins σ Q) X.xe s
      refine PySem.W.cmp_K (op := .Eq) (tb := .ref (G.cls c)) cn.u0 hF I.ok.mod.kin J J'.type (by simp [PySem.W.notFirst]) hs hf ?_
      obtain ⟨fd, ps, dvs, ds, F, bnd, hd, rdf⟩ := FF.ex
      have rdn := rdf ρ H
      cases rdn
      cases hd
      have go := run_fnG (Q := fun v H' => ∃ b, v = .bl b ∧ Q v H') (us := [.ref a, .ref b]) (vs := [.ref a, .ref b]) (dvs := []) (ds := []) (E := fun _ => fun _ _ _ => False) F cn.room cn.gd bnd .nil (fun pins H s e s' I z => ?_) I (.cons rfl (.cons rfl .nil)) (sp_of (.cons r1 (.cons r2 .nil)) rp ?_)
      · refine wpAny_mono go (fun v s' z => ?_) fun _ _ z => z
        obtain ⟨_, H', I', rv, b, rfl, hq⟩ := z
        obtain rfl : v = Value.bool b := rv
        exact ⟨.bl b, H', I', rfl, hq⟩
      · obtain ⟨_, _, _, _, _, _, _, _, _, _, _, _, z⟩ := z
        exact z.elim
      · cases e3 : callF Fm p [x, y] s0 with
        | ok w s' =>
          rw [e3] at q
          cases w with
          | bl b =>
            intro ρ' H' v' y' rp' rv'
            cases rv'
            exact ⟨b, rfl, q ρ' H' _ y' rp' (.bl b)⟩
          | _ => exact q.elim
        | exc _ _ _ => rw [e3] at q; exact q.elim
        | bad => rw [e3] at q; exact q.elim
end
/-- isinstance of an own class -/
theorem qi_own {G : GE} {K : PySem.W.Frag} {C : Addr} {ow : List (Nat × Bool)} (h0 : PySem.W.kitOne K (.type "NoneType") (.ref C) = some false) (h1 : PySem.W.kitOne K (.type "bool") (.ref C) = some false) (h2 : PySem.W.kitOne K (.type "int") (.ref C) = some false) (h3 : PySem.W.kitOne K (.type "str") (.ref C) = some false) (h4 : PySem.W.kitOne K (.type "list") (.ref C) = some false) (h5 : PySem.W.kitOne K (.type "tuple") (.ref C) = some false) (h6 : PySem.W.kitOne K (.type "dict") (.ref C) = some false)
    (h : ∀ c b, lkB c ow = some b → CI_ G K c ∧ PySem.W.kitOne K (.ref (G.cls c)) (.ref C) = some b) : QI G K (.ref C) (qOwn ow) where
  an := fun t b e => by
    cases t with
    | non => cases e; exact h0
    | bl => cases e; exact h1
    | int => cases e; exact h2
    | str => cases e; exact h3
    | lst => cases e; exact h4
    | tup => cases e; exact h5
    | dct => cases e; exact h6
    | own c => exact (h c b e).2
  ow := fun c b e => (h c b e).1
theorem lk_one {c d : Nat} {a b : Bool} (h : lkB c [(d, a)] = some b) : c = d ∧ b = a := by
  simp only [lkB] at h
  by_cases e : c = d
  · rw [if_pos e] at h; cases h; exact ⟨e, rfl⟩
  · rw [if_neg e] at h; cases h
end CC
set_option Elab.async false
set_option linter.all false
set_option maxRecDepth 100000
set_option maxHeartbeats 2000000
/-! CCTry: several clauses 'except X as e' -/
namespace CC
open PySem PySem.Spec PyProof.Rows L2

/-- one clause: its class, the slot of its name, its suite's reading -/
structure Cls1 where
  c : Value
  i : Option Nat
  ts : Addr → Value → Option Addr → TS
/-- behind a suite its name is gone -/
def gone (i : Nat) (D : Ends) : Ends := { nx := fun σ H => D.nx (σ.set i none) H, rt := D.rt, bk := fun σ H => D.bk (σ.set i none) H, ct := fun σ H => D.ct (σ.set i none) H }
def runC (q : Cls1) (a : Addr) (cls : Value) (d : Option Addr) (D : Ends) (σ : L2.St) (H : Hp) : Prop := match q.i with
  | none => q.ts a cls d D σ H
  | some i => q.ts a cls d (gone i D) (σ.set i (some (.ref a))) H
def wAll (K : PySem.W.Frag) (Wo : WX) (D : Ends) : List Cls1 → WX
  | [] => Wo
  | q :: r => fun cls d σ H => ∃ b, PySem.W.exmOne K cls q.c = some b ∧ (b = true → ∀ a, H a = none → runC q a cls d D σ H) ∧ (b = false → wAll K Wo D r cls d σ H)
inductive HdN (X : Cx) : List ExceptHandler → List Cls1 → Prop
  | nil : HdN X [] []
  | bare {x : Str} {c : Value} {ts : Addr → Value → Option Addr → TS} {b0 : Stmt} {su : List Stmt} {np pp : Pos} {hs : List ExceptHandler} {l : List Cls1} (hc : Names X x c)
      (hsu : ∀ (a : Addr) (oe : Obj) (cls : Value) (d : Option Addr) (pn : List (Addr × Obj)), Zc cls d oe → (∃ vs, oe.data = .fields vs) → PSs (X.suite a ((a, oe) :: pn)) (b0 :: su) (ts a cls d)) (r : HdN X hs l) : HdN X (.ExceptHandler (some (.Name x np)) none (b0 :: su) pp :: hs) (⟨c, none, ts⟩ :: l)
  | named {x n : Str} {i : Nat} {c : Value} {ts : Addr → Value → Option Addr → TS} {b0 : Stmt} {su : List Stmt} {np pp : Pos} {hs : List ExceptHandler} {l : List Cls1} (hc : Names X x c) (hi : X.N[i]? = some n) (hk : X.env.kindOf n = some .local)
      (hsu : ∀ (a : Addr) (oe : Obj) (cls : Value) (d : Option Addr) (pn : List (Addr × Obj)), Zc cls d oe → (∃ vs, oe.data = .fields vs) → PSs (X.suite a ((a, oe) :: pn)) (b0 :: su) (ts a cls d)) (r : HdN X hs l) : HdN X (.ExceptHandler (some (.Name x np)) (some n) (b0 :: su) pp :: hs) (⟨c, some i, ts⟩ :: l)
section
variable {X : Cx} {body : List Stmt} {h0 : ExceptHandler} {hds : List ExceptHandler} {l : List Cls1} {pos : Pos} {tb : WX → TS} {Wo : WX}
theorem ps_tryN (hN : X.N.Nodup) (hs : X.stack = X.env :: X.outer) (hf : X.env.frame = some X.env.locals) (tk : Takes X Wo)
    (hb : ∀ (W : WX) (pn : List (Addr × Obj)) (xe : Value → Shared → Prop), Takes (X.tr pn xe) W → PassesOwn (model X.prog X.w) X.A X.env xe → PSs (X.tr pn xe) body (tb W)) (hh : HdN X (h0 :: hds) l) :
    PS X (.Try body (h0 :: hds) [] [] pos) (fun D σ H => tb (wAll X.K Wo D l) D σ H) := by
  refine ⟨fun pins s σ H D I h => wpAny_Try_except ?_⟩
  have ok := I.ok
  have frm : X.A.frames = some (X.env :: X.outer) := by rw [ok.frames, hs]
  let catch_ : Value → Shared → Prop := fun e s₁ => wpAny (model X.prog X.w) X.A (noteFrame e X.env) (fun _ s₂ => wpAny (model X.prog X.w) X.A (setFlight e none) (fun _ s₃ => wpAny (model X.prog X.w) X.A (handleBy e X.env (h0 :: hds)) (SP X pins D) X.xe s₃) X.xe s₂) X.xe s₁
  have tk2 : Takes (X.tr (X.pn ++ pins) catch_) (wAll X.K Wo D l) := fun u s' xx => by
    obtain ⟨a, B, sI, pins', σ', H', cls, d, rfl, J', nb, up, sky, na, os, ag, w⟩ := xx
    have J : Inv X pins σ' H' sI := J'.ofTry ok
    have sk : Sky B (X.env :: X.outer) a (Zc cls d) X.env.locals s'.heap := by rw [← hs]; exact sky
    show wpAny (model X.prog X.w) X.A (noteFrame (.ref a) X.env) _ _ _
    refine Sky.land Zc.steady frm hf sk fun h3 fl3 up3 => ?_
    have J3 : Inv X pins σ' H' { s' with heap := h3 } := J.landed nb fl3.1 (up.trans up3) os ag
    obtain ⟨o3, v3, g3, z3, d3⟩ := fl3.there
    have nfr : a ∉ frs (X.env :: X.outer) := fun hm => by
      obtain ⟨_, o', e', hnf⟩ := fl3.2.2.1.mem hm
      rw [g3] at e'; cases e'
      exact hnf _ d3
    have nL : a ≠ X.env.locals := fun z => nfr (List.mem_filterMap.mpr ⟨X.env, List.mem_cons_self, by rw [hf, z]⟩)
    have nF : a ∉ X.fs := fun hm => by
      obtain ⟨e, he, q⟩ := List.mem_filterMap.mp hm
      exact nfr (List.mem_filterMap.mpr ⟨e, List.mem_cons_of_mem _ he, q⟩)
    have S3 := J3.suite g3 d3 na nL nF
    have LT : PySem.W.Looks (model X.prog X.w) h3 (typeOf (.ref a)) cls := fun A Q E s k q => wpAny_typeOf_ref (k _ _ g3) (by rw [z3.1]; exact q)
    have test : ∀ {x : Str} {c : Value} {np : Pos} {Q E : Value → Shared → Prop}, Names X x c → Q c { s' with heap := h3 } → wpAny (model X.prog X.w) (X.A.mark (some (.ref a))) (eval (.Name x np) X.env) Q E { s' with heap := h3 } := fun {x c np Q E} hc q => by
      obtain ⟨hg, hd, hm | ⟨hm, hv, hnn⟩⟩ := hc
      · exact ld_glob (X := X.suite a ((a, o3) :: (X.pn ++ pins))) S3 hg hm q hd
      · exact ld_blt (X := X.suite a ((a, o3) :: (X.pn ++ pins))) S3 hg hm hv q hnn hd
    have go : ∀ {hds' : List ExceptHandler} {l' : List Cls1}, HdN X hds' l' → wAll X.K Wo D l' cls d σ' H' → wpAny (model X.prog X.w) X.A (handleBy (.ref a) X.env hds') (SP X pins D) X.xe { s' with heap := h3 } := by
      intro hds' l' hk
      induction hk with
      | nil =>
        intro w
        refine wpAny_handleBy_nil ?_
        obtain ⟨k1, k2, k3, oe, vs, T, oT, ts', he, hz, hd, h1, hr⟩ := id fl3
        unfold PySem.passOn
        refine wpAny_bind (wpAny_field he hd h1 ?_)
        rw [if_neg (show ¬ ((Value.ref T == Value.none) = true) from by simp)]
        have fin : wpAny (model X.prog X.w) X.A (setFlight (.ref a) X.env.frame) (fun _ s4 => wpAny (model X.prog X.w) X.A (throw (.ref a) : Sem Flow) (SP X pins D) X.xe s4) X.xe { s' with heap := h3 } := by
          rw [hf]
          exact HandSPX.setFlight_upZ fl3 fun h4 hh4 up4 => wpAny_throw (tk _ _ ⟨a, B, sI, pins, σ', H', cls, d, rfl, J, nb, (up.trans up3).trans up4, .inr (.inr (by rw [hs]; exact hh4)), na, os, ag, w⟩)
        first
          | exact wpAny_bind (wpAny_pure (wpAny_bind fin))
          | exact wpAny_bind fin
      | @bare x c ts b0 su np pp hs2 l2 hc hsu r ih =>
        intro ⟨b, hb1, hyes, hno⟩
        refine wpAny_handleBy_cons (codeAny_handlers_test (test hc ((PySem.W.exm_one (M := model X.prog X.w) J3.kIn LT hb1).here ?_))) (by intro q; cases q)
        cases b with
        | false => exact ih (hno rfl)
        | true =>
          refine codeAny_handlers_suite (HandSPX.lands_againZ fl3 fun h4 fl4 up4 => ?_)
          have J4 : Inv X pins σ' H' { s' with heap := h4 } := J.landed nb fl4.1 ((up.trans up3).trans up4) os ag
          obtain ⟨o4, v4, g4, z4, d4⟩ := fl4.there
          refine wpAny_mono ((hsu a o4 cls d (X.pn ++ pins) z4 ⟨_, d4⟩).run [] _ _ H' _ (J4.suite g4 d4 na nL nF) (hyes rfl a na)) (fun f s6 hsp => ?_) (fun _ _ z => False.elim z)
          cases f with
          | ret u => obtain ⟨v6, σ6, H6, S6, r6, q6⟩ := hsp; exact ⟨_, _, _, S6.unsuite ok, r6, q6⟩
          | next => obtain ⟨σ6, H6, S6, q6⟩ := hsp; exact ⟨_, _, S6.unsuite ok, q6⟩
          | brk => obtain ⟨σ6, H6, S6, q6⟩ := hsp; exact ⟨_, _, S6.unsuite ok, q6⟩
          | cont => obtain ⟨σ6, H6, S6, q6⟩ := hsp; exact ⟨_, _, S6.unsuite ok, q6⟩
      | @named x n i c ts b0 su np pp hs2 l2 hc hi hln hsu r ih =>
        intro ⟨b, hb1, hyes, hno⟩
        refine wpAny_handleBy_cons (codeAny_handlers_test (test hc ((PySem.W.exm_one (M := model X.prog X.w) J3.kIn LT hb1).here ?_))) (by intro q; cases q)
        cases b with
        | false => exact ih (hno rfl)
        | true =>
          refine codeAny_handlers_suite_as (HandSPX.lands_againZ fl3 fun h4 fl4 up4 => ?_)
          have J4 : Inv X pins σ' H' { s' with heap := h4 } := J.landed nb fl4.1 ((up.trans up3).trans up4) os ag
          obtain ⟨o4, v4, g4, z4, d4⟩ := fl4.there
          refine store_ok (X := X.suite a ((a, o4) :: (X.pn ++ pins))) (v := .ref a) (J4.suite g4 d4 na nL nF) hN hi (.inl hln) rfl (fun s5 S5 => ?_) (.inr hln)
          refine wpAny_mono ((hsu a o4 cls d (X.pn ++ pins) z4 ⟨_, d4⟩).run [] s5 _ H' _ S5 (hyes rfl a na)) (fun f s6 hsp => ?_) (fun _ _ z => False.elim z)
          have fini : ∀ {σ6 : L2.St} {H6 : Hp} {Q : Shared → Prop}, Inv (X.suite a ((a, o4) :: (X.pn ++ pins))) [] σ6 H6 s6 → (∀ s7, Inv X pins (σ6.set i none) H6 s7 → Q s7) →
              wpAny (model X.prog X.w) X.A (do bindName X.env n .none; unbindBehindTheSuite X.env n pp) (fun _ s7 => Q s7) X.xe s6 := fun S6 hq => gone_ok (S6.unsuite ok) hN hi hln hq
          cases f with
          | ret u => obtain ⟨v6, σ6, H6, S6, r6, q6⟩ := hsp; exact fini S6 fun s7 J7 => ⟨_, _, _, J7, r6, q6⟩
          | next => obtain ⟨σ6, H6, S6, q6⟩ := hsp; exact fini S6 fun s7 J7 => ⟨_, _, J7, q6⟩
          | brk => obtain ⟨σ6, H6, S6, q6⟩ := hsp; exact fini S6 fun s7 J7 => ⟨_, _, J7, q6⟩
          | cont => obtain ⟨σ6, H6, S6, q6⟩ := hsp; exact fini S6 fun s7 J7 => ⟨_, _, J7, q6⟩
    exact go hh w
  refine wpAny_mono ((hb (wAll X.K Wo D l) (X.pn ++ pins) catch_ tk2 PassesOwn.looking).run [] s σ H D (I.toTry _) h) (fun f s1 hsp => ?_) (fun e s1 he => he)
  cases f with
  | ret u => obtain ⟨v, σ', H', J', r, q⟩ := hsp; exact ⟨v, σ', H', J'.ofTry ok, r, q⟩
  | next => obtain ⟨σ', H', J', q⟩ := hsp; exact wpAny_execs_nil ⟨σ', H', J'.ofTry ok, q⟩
  | brk => obtain ⟨σ', H', J', q⟩ := hsp; exact ⟨σ', H', J'.ofTry ok, q⟩
  | cont => obtain ⟨σ', H', J', q⟩ := hsp; exact ⟨σ', H', J'.ofTry ok, q⟩
end
end CC
set_option Elab.async false
set_option linter.all false
set_option maxRecDepth 100000
set_option maxHeartbeats 2000000
/-! CCExc: own exceptions are made and raised -/
namespace CC
open PySem PySem.Spec PyProof.Rows L2

section
variable {X : Cx} {a0 : Expr} {es : List Expr} {ta : TA} {p1 p2 pos : Pos} {B : Str} {CB : Addr} {mc : Value}
/-- Base.__init__(self, ..), Base an own class whose __init__ is ValueError's -/
theorem pe_binit {pl : Sem Bool} (hg : Gl X B) (hm : X.mg B = some (.ref CB)) (r : ClX.CRead X.K CB mc) (k : PySem.W.findCls X.K (.ref CB) mc "__init__" = some (.val (.builtin "ValueError.__init__"))) (ha : PA X (a0 :: es) ta) (hd : (B == ("__debug__" : Str)) = false := by decide)
    (hc : eval (.Call (.Attribute (.Name B p1) "__init__" p2) (a0 :: es) [] pos) X.env = (do
      let ov ← eval (.Name B p1) X.env
      standAt p2.atName
      let (f, first) ← holding [ov] (getMethod ov "__init__" pl)
      callWith pos f first (backTo pos (starEach (a0 :: es) X.env)) (backToKw pos (keywordEach [] X.env))) := by rfl)
    (he : starEach (a0 :: es) X.env = (false, eval a0 X.env) :: starEach es X.env := by rfl) (hpl : (backTo pos (starEach es X.env)).any (·.1) = false := by rfl) : PE X (.Call (.Attribute (.Name B p1) "__init__" p2) (a0 :: es) [] pos) (tVeI X.K ta) := by
  refine ⟨fun pins s σ H Q I h => ?_⟩
  refine PySem.W.methodCall_KW (ld_glob I hg hm ?_ hd) hc
  refine PySem.W.method_cls I.kIn r.ga ?_
  refine PySem.W.cls_value I.kIn r.rd k (by decide +kernel) ?_
  show wpAny _ _ (callWith pos (Value.builtin "ValueError.__init__") [] (backTo pos (starEach (a0 :: es) X.env)) []) _ _ _
  refine PyProof.Rows.callWith_method1 (thn (ha.run pos pins _ σ H _ (I.tok _) h) fun us s1 ⟨vs, H1, I1, r1, a, C, ws, ev, hl, T, ea, q⟩ => ?_) he hpl
  subst ev
  cases r1 with
  | @cons _ u0 _ ur ra rw' =>
    obtain rfl : u0 = Value.ref a := ra
    exact oinit_ok T I1 ea (by rw [← Paired.length rw', sizeLine_eq]; omega) fun s' J => ⟨.non, H1, J, rfl, q⟩
end
/-- what an own exception's __init__ promises: its one field is the argument -/
def spX (K : PySem.W.Frag) (C : Addr) (f : Str) : Sp := fun vs H Q _ => ∃ (a : Addr) (v : V), vs = [.ref a, v] ∧ H a = some (exo a C none) ∧ ∀ dx, H dx = none → dx ≠ a → Q .non (upd (upd H dx (exd dx [(f, v)])) a (exo a C (some dx)))
section
variable {P : Program} {w : World} {K : PySem.W.Frag} {mg : Str → Option Value} {base : Heap}
theorem xinit_ok {qual : Str} {st : Stmt} {fI : Addr} {fd : FuncData} {n0 n1 : Str} {C : Addr} {f : Str} (F : Fun K "__init__" qual st fI fd) (sc : FnScope [n0, n1] [n0, n1] (defScope st)) (T : OexC K C) (hno : PySem.W.findIn K (.ref C) f = some none)
    (hb : ∀ (cdv : Value) (A : Around) (outer : List Env) (s : Shared) (H : Hp) (E : XK) (k : Nat), Cn (XOf P w K mg base [n0, n1] qual (defScope st) fI cdv A outer s H E) (fun c d _ H' => E c d H') k →
      ∃ tv t1, PSs (XOf P w K mg base [n0, n1] qual (defScope st) fI cdv A outer s H E) (defBody st) (fun D σ H => tVeI K (tCons (tVar 0) (tCons t1 tNil)) σ H fun _ H1 => tOst K f (tVar 0) tv D σ H1) ∧ tv = tVar 1 ∧ ∃ z, t1 = tC (.str z)) :
    FnG P w K mg base 1 fI fd [n0, n1] (spX K C f) := by
  obtain ⟨oc, od, kV, doc, pm, an, cdv, ct, osl, rfl, lk, hcd⟩ := F.ex
  refine fnG_of lk hcd sc (fun vs H Q E h => ?_) fun A outer s H vs Q E hr hg h => ?_
  · obtain ⟨a, v, rfl, _⟩ := h; rfl
  · obtain ⟨a, v, rfl, ha, hq⟩ := h
    obtain ⟨tv, t1, hs, rfl, z, rfl⟩ := hb cdv A outer s H E 0 (cn_of sc.nd hr hg)
    exact ⟨_, hs, .ref a, rfl, a, C, [.str z], rfl, by show 1 ≤ 1000; decide, T, ha, v, rfl, .ref a, rfl, a, C, rfl, T, hno, .inl ⟨ha, fun dx n ne => hq dx n ne⟩⟩
end
section
variable {X : Cx} {x : Str} {e : Expr} {es : List Expr} {ta : TA} {p pos : Pos}
theorem pmk_G {C fI : Addr} {k : Nat} {fd : FuncData} {ps : List Str} {sp : Sp} {ds : List Value} {dvs : List V} (T : OexC X.K C) (iC : PySem.W.findIn X.K (.ref C) "__init__" = some (some (.ref fI))) (tI : PySem.W.typeIn X.K (.ref fI) = some (.type "function"))
    (F1 : FnG X.prog X.w X.K X.mg X.base k fI fd ps sp) (hr : Room (k + 1) X.A) (hgd : X.A.guards = some []) (hb : Binds X.K fd ps ds) (hd : Vals dvs ds) (hg : Gl X x) (hm : X.mg x = some (.ref C)) (ha : PA X (e :: es) ta)
    (hdb : (x == ("__debug__" : Str)) = false := by decide) (he : starEach (e :: es) X.env = (false, eval e X.env) :: starEach es X.env := by rfl) (hpl : (backTo pos (starEach es X.env)).any (·.1) = false := by rfl) : PMk X (.Call (.Name x p) (e :: es) [] pos) (tMkO C sp dvs ta) := by
  intro pins s σ H Q I h
  obtain ⟨nm, q, N, bs, bm, sn, sub, ab, col, dd, k0, k1, k2, k3, k5, hC, hbm⟩ := T.cls
  refine wpAny_Call_Name_kw (ld_glob I hg hm ?_ hdb)
  refine PySem.W.callWith_K (h₀ := X.base) I.ok.mod.kin T.kC (thn (ha.run pos pins s σ H _ I h) fun us s1 ⟨vs, H1, I1, r1, hz, q1⟩ => ⟨I1.kIn, ?_⟩) he hpl
  show wpAny _ _ (call (.ref C) us) _ _ _
  obtain ⟨hp, g, dr, tk, os⟩ := s1
  have le1 : hp.objs.size ≤ hp.objs.size + 1 := Nat.le_succ _
  have hq := q1 (hp.objs.size + 1) (I1.hok.fresh le1)
  have kk : ∀ b o, hp.get? b = some o → ((hp.push (PySem.W.kdv_tup us)).push (PySem.HandSPX.excO C hp.objs.size)).get? b = some o := fun b o e => Heap.get?_push_of_some _ (Heap.get?_push_of_some _ e)
  have I2 : Inv X pins σ (upd H1 (hp.objs.size + 1) (exo (hp.objs.size + 1) C none)) ⟨(hp.push (PySem.W.kdv_tup us)).push (PySem.HandSPX.excO C hp.objs.size), g, dr, tk, os⟩ := I1.laid (t' := tk) kk le1 (exo_ok (by heap_get))
  have r2 : Vals (V.ref (hp.objs.size + 1) :: (vs ++ dvs)) (Value.ref (hp.objs.size + 1) :: (us ++ ds)) := .cons rfl (r1.append hd)
  have hl : (Value.ref (hp.objs.size + 1) :: us ++ ds).length = ps.length := by rw [← F1.len _ _ _ _ hq]; exact r2.length.symm
  have hus : us.length ≤ sizeLine := by rw [← Paired.length r1, sizeLine_eq]; omega
  refine wpAny_call (PySem.HandSPX.call_own F.excBase_ValueError (fun Y => PySem.HandSPX.refsVE_contains Y bm hbm) (I1.kIn _ _ hC) (PySem.W.looks_findIn I1.kIn iC) (fun self => PySem.W.bind_fn I1.kIn self tI) hus
    (codeAny_mono (F1.run _ X.stack _ _ ⟨Value.ref (hp.objs.size + 1) :: us, []⟩ (Value.ref (hp.objs.size + 1) :: (us ++ ds)) _ _ (fun _ _ _ => False) (hr.make C us []) (by rw [under_guards]; exact hgd) (I2.env0.make C us []) (hb _ (Value.ref (hp.objs.size + 1) :: us) I2.kIn hl) r2 hq) fun r s' hq' => ?_))
  cases r with
  | error er =>
    obtain ⟨_, _, _, _, _, _, _, _, _, _, _, _, z⟩ := hq'
    exact z.elim
  | ok fl =>
    cases fl with
    | ret u =>
      obtain ⟨v, H2, os2, bare2, un2, hok2, rv, ev, d, fs, ea, ed, hd1, q2⟩ := hq'
      subst ev
      obtain ⟨h2, g2, d2, t2, os'⟩ := s'
      exact ⟨rv, mk_end (raises_own T.exC T.tyC) I1 le1 kk un2 hok2 os2 bare2 ea ed hd1 q2⟩
    | _ => exact False.elim hq'
end
/-- an own exception class that may be raised: c its number, one field -/
structure XC (G : GE) (P : Program) (w : World) (K : PySem.W.Frag) (mg : Str → Option Value) (base : Heap) (c : Nat) (x : Str) (f : Str) : Prop where
  T : OexC K (G.cls c)
  fl : G.fld c = [f]
  nm : mg x = some (.ref (G.cls c))
  ini : ∃ (fI : Addr) (fd : FuncData) (ps : List Str), PySem.W.findIn K (.ref (G.cls c)) "__init__" = some (some (.ref fI)) ∧ PySem.W.typeIn K (.ref fI) = some (.type "function") ∧ FnG P w K mg base 1 fI fd ps (spX K (G.cls c) f) ∧ Binds K fd ps []
def sRaise (c : Nat) (ma : Lo → S → R W) : Lo → S → RS := fun l s => (ma l s).toS l fun w s1 => .exc c w l s1
section
variable {G : GE} {p : Hh} {E : WX} {X : Cx} {k c : Nat} {x f : Str} {a : Expr} {ma : Lo → S → R W} {p' pos pos' : Pos}
theorem ss_raise (F : XC G X.prog X.w X.K X.mg X.base c x f) (cn : Cn X E k) (h2 : 2 ≤ k) (ha : SE G p E X a ma) (hg : Gl X x := by rfl) (hdb : (x == ("__debug__" : Str)) = false := by decide) (he : starEach (a :: []) X.env = (false, eval a X.env) :: starEach [] X.env := by rfl)
    (hpl : (backTo pos (starEach [] X.env)).any (·.1) = false := by rfl) : SS G p E X (.Raise (some (.Call (.Name x p') [a] [] pos)) none pos') (sRaise c ma) := by
  obtain ⟨fI, fd, ps, i1, i2, g, b⟩ := F.ini
  refine PS_imp (ps_raise cn.calm cn.tk (pmk_G F.T i1 i2 g (cn.room.mono h2) cn.gd b .nil hg F.nm (pa1 ha he) hdb he hpl)) fun D σ H ⟨ρ, l, s, rl, rp, h⟩ => ?_
  unfold sRaise at h
  refine ⟨ρ, l, s, rl, rp, PoS.val rl h fun w s1 ρ1 H1 v x1 rp1 rv1 h1 => ⟨by show 1 ≤ 1000; decide, fun q hq => ?_⟩⟩
  refine ⟨q, v, rfl, upd_same, fun dx hdx ne => ⟨rfl, dx, [(f, v)], upd_same, by rw [upd_ne ne, upd_same], ?_, ?_⟩⟩
  · rw [upd_ne ne] at hdx; exact hdx
  · have hdx1 : H1 dx = none := by rw [upd_ne ne] at hdx; exact hdx
    have eH : upd (del (upd (upd (upd H1 q (exo q (G.cls c) none)) dx (exd dx [(f, v)])) q (exo q (G.cls c) (some dx))) q) dx (.xd [(f, v)]) = upd H1 dx (.xd [(f, v)]) := by
      funext b
      by_cases hb : b = dx
      · rw [hb, upd_same, upd_same]
      · rw [upd_ne hb, upd_ne hb]
        by_cases hq2 : b = q
        · rw [hq2, del_same, hq]
        · rw [del_ne hq2, upd_ne hq2, upd_ne hb, upd_ne hq2]
    rw [eH]
    have xx := Ex.fresh (u := .xd [(f, v)]) rp1 hdx1
    refine h1 ρ1 _ (some dx) σ xx (rp1.fresh hdx1) ?_ ((rl.mono x1).mono xx)
    unfold RX
    rw [F.fl]
    exact ⟨dx, v, rfl, rp1.ref_none hdx1, upd_same, rv1.mono xx⟩
end
end CC
set_option Elab.async false
set_option linter.all false
set_option maxRecDepth 100000
set_option maxHeartbeats 2000000
/-! CCSuite: except suites: the exception's field, its class; try -/
namespace CC
open PySem PySem.Spec PyProof.Rows L2

mutual
theorem RV.chg {G G' : GE} {ρ : List Addr} {H : Hp} : ∀ {w : W} {v : V}, RV G ρ H w v → RV G' ρ H w v
  | _, _, .non => .non
  | _, _, .bl b => .bl b
  | _, _, .int i => .int i
  | _, _, .str z => .str z
  | _, _, .ref h => .ref h
  | _, _, .tup na h r => .tup na h (RVs.chg r)
theorem RVs.chg {G G' : GE} {ρ : List Addr} {H : Hp} : ∀ {ws : List W} {vs : List V}, RVs G ρ H ws vs → RVs G' ρ H ws vs
  | _, _, .nil => .nil
  | _, _, .cons h r => .cons (RV.chg h) (RVs.chg r)
end
theorem RO.chg {G G' : GE} {ρ : List Addr} {H : Hp} (ec : G'.cls = G.cls) (ef : G'.fld = G.fld) {o : Ob} {u : HO} (r : RO G ρ H o u) : RO G' ρ H o u := by
  cases r with
  | lst r => exact .lst r.chg
  | frz => exact .frz
  | dK r r2 => exact .dK r r2.chg
  | dT r r2 => exact .dT r r2.chg
  | @ins c fs gs dx k r =>
    rw [← ec]
    exact .ins (by rw [ef]; exact k) r.chg
theorem Rep.chg {G G' : GE} {ρ : List Addr} {H : Hp} {p : Hh} {s : S} (ec : G'.cls = G.cls) (ef : G'.fld = G.fld) (r : Rep G ρ p s H) : Rep G' ρ p s H := ⟨r.len, r.nd, fun n o h => by
  obtain ⟨a, u, e1, e2, e3⟩ := r.has n o h
  exact ⟨a, u, e1, e2, e3.chg ec ef⟩⟩
/-- the exception a with its dict d stands in slot i; its one field f is w -/
def GE.inS (G : GE) (i : Nat) (a : Addr) (d : Option Addr) (f : Str) (w : W) (hH : G.hold = none) : GE where
  cls := G.cls
  fld := G.fld
  J := fun ρ σ H => G.J ρ σ H ∧ σ[i]? = some (some (.ref a)) ∧ ∃ dd v, d = some dd ∧ dd ∉ ρ ∧ H dd = some (.xd [(f, v)]) ∧ RV G ρ H w v
  jm := fun x ⟨h1, h2, dd, v, e, n, hd, r⟩ => ⟨G.jm x h1, h2, dd, v, e, x.nin n hd, x.keep _ _ n hd, r.mono x⟩
  hold := some i
  js := fun j o hj ⟨h1, h2, h3⟩ => ⟨G.js j o (by rw [hH]; intro z; cases z) h1, by rw [List.getElem?_set_ne (fun e => hj (by rw [e]))]; exact h2, h3⟩
/-- what a suite's rules may use of its context -/
structure Cs (X : Cx) : Prop where
  gd : X.A.guards = some []
  un : X.A.units + 65 < cLine
  nd : X.N.Nodup
theorem Cs.u65 {X : Cx} (c : Cs X) : X.A.units + 65 < cLine := c.un
theorem Cs.u64 {X : Cx} (c : Cs X) : X.A.units + 64 < cLine := by have := c.un; omega
theorem Cs.u1 {X : Cx} (c : Cs X) : X.A.units + 1 < cLine := by have := c.un; omega
theorem Cs.u0 {X : Cx} (c : Cs X) : X.A.units < cLine := by have := c.un; omega
theorem cs_of {X : Cx} {E : WX} {k : Nat} (cn : Cn X E k) (a : Addr) (pn : List (Addr × Obj)) : Cs (X.suite a pn) := ⟨cn.gd, cn.u65, cn.nd⟩
section
variable {G : GE} {p : Hh} {X : Cx} {i c : Nat} {a : Addr} {oe : Obj} {pn : List (Addr × Obj)} {d : Option Addr} {f : Str} {w : W} {hH : G.hold = none} {E : WX} {pos p1 p' q' : Pos} {x n : Str}
/-- e.f -/
theorem se_exf (T : XfC X.K (G.cls c)) (hno : PySem.W.findIn X.K (.ref (G.cls c)) f = some none) (hz : Zc (.ref (G.cls c)) d oe) (hf : ∃ vs, oe.data = .fields vs) (hi : X.N[i]? = some n := by rfl) (hv : Vis X.env.scope n := by first | exact Or.inl rfl | exact Or.inr (Or.inl rfl) | exact Or.inr (Or.inr rfl)) (hd : (n == ("__debug__" : Str)) = false := by decide) (hcd : (n == ("__classdict__" : Str)) = false := by decide)
    (hb : attributeBase (.Name n p1) f X.env (eval (.Name n p1) X.env) = eval (.Name n p1) X.env := by rfl) : SE (G.inS i a d f w hH) p E (X.suite a ((a, oe) :: pn)) (.Attribute (.Name n p1) f pos) (eC w) :=
  PE_imp (pe_xf (X := X) (cls := .ref (G.cls c)) (d := d) T hno hz hf (pe_var (X := X.suite a ((a, oe) :: pn)) hi hv hd hcd) hb) fun σ H Q ⟨ρ, l, s, rl, rp, h⟩ => by
    obtain ⟨_, h2, dd, v, e, n1, hd, r⟩ := rl.inv
    exact ⟨.ref a, h2, rfl, rfl, dd, _, v, e, hd, by simp [List.lookup], h ρ H v Ex.rfl' rp r.chg⟩
/-- isinstance(e, C) -/
theorem se_exi {cv : Value} {cV : V} {b : Bool} {tn : Expr} (C : ExcC X.K (G.cls c)) (hk : PySem.W.kitOne X.K (.ref (G.cls c)) cv = some b) (hcv : ∀ u, RelV cV u → u = cv) (ht : PE (X.suite a ((a, oe) :: pn)) tn (tC cV)) (hz : Zc (.ref (G.cls c)) d oe) (hf : ∃ vs, oe.data = .fields vs) (hm : X.mg "isinstance" = none) (hi : X.N[i]? = some n := by rfl) (hv : Vis X.env.scope n := by first | exact Or.inl rfl | exact Or.inr (Or.inl rfl) | exact Or.inr (Or.inr rfl)) (hd : (n == ("__debug__" : Str)) = false := by decide) (hcd : (n == ("__classdict__" : Str)) = false := by decide)
    (hg : Gl X "isinstance" := by rfl) (hs : starEach (.Name n p1 :: [tn]) X.env = (false, eval (.Name n p1) X.env) :: starEach [tn] X.env := by rfl) (hs2 : starEach (tn :: []) X.env = (false, eval tn X.env) :: starEach [] X.env := by rfl) (hpl : (backTo pos (starEach [tn] X.env)).any (·.1) = false := by rfl) :
    SE (G.inS i a d f w hH) p E (X.suite a ((a, oe) :: pn)) (.Call (.Name "isinstance" p') [.Name n p1, tn] [] pos) (eC (.bl b)) := by
  have rule : CallR (X.suite a ((a, oe) :: pn)) (.builtin "isinstance") (fun xs H Q => xs = [.ref a, cV] ∧ (∃ dd fs, d = some dd ∧ H dd = some (.xd fs)) ∧ Q (.bl b) H) := by
    intro pins s σ H xs us Q I r h
    obtain ⟨rfl, ⟨dd, fs, e, hx⟩, q⟩ := h
    cases r with
    | cons rx rr =>
      cases rr with
      | cons rt rr =>
        cases rr
        cases rx
        have ec := hcv _ rt
        subst ec
        obtain ⟨hget, _⟩ := I.pin (a, oe) (List.mem_append.mpr (.inl List.mem_cons_self))
        obtain ⟨vs, hd⟩ := hf
        obtain ⟨mA, hns, _⟩ := (show ObjOk X.prog X.w H s.heap dd (.xd fs) from I.hok dd _ hx)
        obtain ⟨od, ho, hl⟩ := lookIn_ns hns
        have J : PySem.W.InstAt s.heap a oe (G.cls c) (some od) := ⟨hget, hz.1, by unfold PySem.W.notCls; rw [hd] <;> rfl, by rw [hz.2, e]; exact ho⟩
        exact PySem.W.kia_one (PySem.W.kitx_exc (by obtain ⟨cd, hc, _⟩ := PySem.W.any_some C.hd; rw [hc]; rfl) C.hg C.hk C.hs C.ha C.hn C.ht C.hm) I.kIn J hk (fun z => nomatch z) fun tk => ⟨.bl b, H, I.kept (t' := tk) fun _ _ z => z, rfl, q⟩
  exact PE_imp (pe_callB (X := X.suite a ((a, oe) :: pn)) (x := "isinstance") rule hg hm (by decide +kernel) (pa_cons (pe_var (X := X.suite a ((a, oe) :: pn)) hi hv hd hcd) (pa_cons ht pa_nil hs2) hs) (by decide) (by decide) hs hpl) fun σ H Q ⟨ρ, l, s, rl, rp, h⟩ => by
    obtain ⟨_, h2, dd, v, e, n1, hd, r⟩ := rl.inv
    exact ⟨.ref a, h2, rfl, ⟨dd, _, e, hd⟩, h ρ H _ Ex.rfl' rp (.bl b)⟩
end
theorem Rep.toS {G : GE} {i : Nat} {a : Addr} {d : Option Addr} {f : Str} {w : W} {hH : G.hold = none} {ρ : List Addr} {p : Hh} {s : S} {H : Hp} (r : Rep G ρ p s H) : Rep (G.inS i a d f w hH) ρ p s H := Rep.chg (G := G) (G' := G.inS i a d f w hH) rfl rfl r
theorem Rep.ofS {G : GE} {i : Nat} {a : Addr} {d : Option Addr} {f : Str} {w : W} {hH : G.hold = none} {ρ : List Addr} {p : Hh} {s : S} {H : Hp} (r : Rep (G.inS i a d f w hH) ρ p s H) : Rep G ρ p s H := Rep.chg (G := G.inS i a d f w hH) (G' := G) rfl rfl r
/-- one clause of the mirror: its class, the classes that are known to be none of it, the slot of its name, its suite by the field's value -/
structure HC where
  cx : Nat
  no : List Nat
  slot : Option Nat
  su : W → Lo → S → RS
def hRun : List HC → Nat → W → Lo → S → RS
  | [], c, w, l, s => .exc c w l s
  | q :: r, c, w, l, s => if c = q.cx then (match q.slot with
      | none => (match q.su w l s with
        | .exc _ _ _ _ => .bad
        | r => r)
      | some i => if i < l.length then (match q.su w (l.set i none) s with
        | .nx l2 s2 => .nx (l2.set i none) s2
        | .brk l2 s2 => .brk (l2.set i none) s2
        | .ct l2 s2 => .ct (l2.set i none) s2
        | .ret w2 s2 => .ret w2 s2
        | _ => .bad) else .bad)
    else if c ∈ q.no then hRun r c w l s else .bad
def sTry (mb : Lo → S → RS) (hs : List HC) : Lo → S → RS := fun l s => match mb l s with
  | .exc c w l1 s1 => hRun hs c w l1 s1
  | r => r
inductive HS (G : GE) (p : Hh) (X : Cx) (hH : G.hold = none) : List ExceptHandler → List HC → Prop
  | nil : HS G p X hH [] []
  | bare {x : Str} {cx : Nat} {no : List Nat} {su : W → Lo → S → RS} {b0 : Stmt} {sts : List Stmt} {np pp : Pos} {hs : List ExceptHandler} {l : List HC} (hc : Names X x (.ref (G.cls cx))) (hy : PySem.W.exmOne X.K (.ref (G.cls cx)) (.ref (G.cls cx)) = some true) (hn : ∀ j ∈ no, PySem.W.exmOne X.K (.ref (G.cls j)) (.ref (G.cls cx)) = some false)
      (hsu : ∀ (a : Addr) (oe : Obj) (d : Option Addr) (pn : List (Addr × Obj)) (w : W), Zc (.ref (G.cls cx)) d oe → (∃ vs, oe.data = .fields vs) → Cs (X.suite a ((a, oe) :: pn)) → SB G p (fun _ _ _ _ => False) (X.suite a ((a, oe) :: pn)) (b0 :: sts) (su w)) (r : HS G p X hH hs l) : HS G p X hH (.ExceptHandler (some (.Name x np)) none (b0 :: sts) pp :: hs) (⟨cx, no, none, su⟩ :: l)
  | named {x n f : Str} {i cx : Nat} {no : List Nat} {su : W → Lo → S → RS} {b0 : Stmt} {sts : List Stmt} {np pp : Pos} {hs : List ExceptHandler} {l : List HC} (hc : Names X x (.ref (G.cls cx))) (hy : PySem.W.exmOne X.K (.ref (G.cls cx)) (.ref (G.cls cx)) = some true) (hn : ∀ j ∈ no, PySem.W.exmOne X.K (.ref (G.cls j)) (.ref (G.cls cx)) = some false) (hf : G.fld cx = [f]) (hi : X.N[i]? = some n) (hk : X.env.kindOf n = some .local)
      (hsu : ∀ (a : Addr) (oe : Obj) (d : Option Addr) (pn : List (Addr × Obj)) (w : W), Zc (.ref (G.cls cx)) d oe → (∃ vs, oe.data = .fields vs) → Cs (X.suite a ((a, oe) :: pn)) → SB (G.inS i a d f w hH) p (fun _ _ _ _ => False) (X.suite a ((a, oe) :: pn)) (b0 :: sts) (su w)) (r : HS G p X hH hs l) : HS G p X hH (.ExceptHandler (some (.Name x np)) (some n) (b0 :: sts) pp :: hs) (⟨cx, no, some i, su⟩ :: l)
section
variable {G : GE} {p : Hh} {X : Cx} {E : WX} {k : Nat} {hH : G.hold = none}
theorem hs_way (cs : ∀ a pn, Cs (X.suite a pn)) {hds : List ExceptHandler} {hs : List HC} (hh : HS G p X hH hds hs) : ∃ l : List Cls1, HdN X hds l ∧ ∀ (c : Nat) (w : W) (d : Option Addr) (D : Ends) (ρ : List Addr) (H : Hp) (σ : L2.St) (lo : Lo) (s : S), RL G ρ H lo σ → Rep G ρ p s H → RX G ρ H c w d → PoS G p ρ H (hRun hs c w lo s) D E → wAll X.K E D l (.ref (G.cls c)) d σ H := by
  induction hh with
  | nil => exact ⟨[], .nil, fun c w d D ρ H σ lo s rl rp rx h => h ρ H d σ Ex.rfl' rp rx rl⟩
  | @bare x cx no su b0 sts np pp hs' l' hc hy hn hsu r ih =>
    obtain ⟨l, hl, way⟩ := ih
    refine ⟨⟨.ref (G.cls cx), none, fun a cls d D σ H => ∃ w, cls = .ref (G.cls cx) ∧ tS G p (fun _ _ _ _ => False) (su w) D σ H⟩ :: l, .bare hc (fun a oe cls d pn hz hf => ⟨fun pins s σ H D I ⟨w, e, h⟩ => ?_⟩) hl, fun c w d D ρ H σ lo s rl rp rx h => ?_⟩
    · subst e
      exact (hsu a oe d pn w hz hf (cs a _)).run pins s σ H D I h
    · simp only [hRun] at h
      by_cases e : c = cx
      · subst e
        rw [if_pos rfl] at h
        refine ⟨true, hy, fun _ a na => ⟨w, rfl, ρ, lo, s, rl, rp, ?_⟩, fun z => nomatch z⟩
        cases q : su w lo s with
        | exc _ _ _ _ => rw [q] at h; exact h.elim
        | _ => rw [q] at h; exact h
      · rw [if_neg e] at h
        by_cases e2 : c ∈ no
        · rw [if_pos e2] at h
          exact ⟨false, hn c e2, (fun z => nomatch z), fun _ => way c w d D ρ H σ lo s rl rp rx h⟩
        · rw [if_neg e2] at h; exact h.elim
  | @named x n f i cx no su b0 sts np pp hs' l' hc hy hn hf' hi hk hsu r ih =>
    obtain ⟨l, hl, way⟩ := ih
    refine ⟨⟨.ref (G.cls cx), some i, fun a cls d D σ H => ∃ w, cls = .ref (G.cls cx) ∧ tS (G.inS i a d f w hH) p (fun _ _ _ _ => False) (su w) D σ H⟩ :: l, .named hc hi hk (fun a oe cls d pn hz hf => ⟨fun pins s σ H D I ⟨w, e, h⟩ => ?_⟩) hl, fun c w d D ρ H σ lo s rl rp rx h => ?_⟩
    · subst e
      exact (hsu a oe d pn w hz hf (cs a _)).run pins s σ H D I h
    · simp only [hRun] at h
      by_cases e : c = cx
      · subst e
        rw [if_pos rfl] at h
        by_cases hlt : i < lo.length
        · rw [if_pos hlt] at h
          unfold RX at rx
          rw [hf'] at rx
          obtain ⟨dd, v, ed, nd, hd, rv⟩ := rx
          have back : ∀ {a : Addr} {ρ' : List Addr} {H' : Hp} {l2 : Lo} {σ' : L2.St}, RL (G.inS i a d f w hH) ρ' H' l2 σ' → RL G ρ' H' (l2.set i none) (σ'.set i none) := fun {a ρ' H' l2 σ'} r => ⟨by simp [r.len], fun j u z => by
            by_cases hj : i = j
            · subst hj
              by_cases hi2 : i < l2.length
              · rw [List.getElem?_set_self hi2] at z; cases z
              · rw [List.getElem?_eq_none (by simpa using hi2)] at z; cases z
            · rw [List.getElem?_set_ne hj] at z
              obtain ⟨v', e1, e2⟩ := r.has j u z
              exact ⟨v', by rw [List.getElem?_set_ne hj]; exact e1, e2.chg⟩, G.js i none (by rw [hH]; intro z; cases z) r.inv.1⟩
          refine ⟨true, hy, fun _ a na => ⟨w, rfl, ρ, lo.set i none, s, ⟨by simp [rl.len], fun j u z => ?_, G.js i _ (by rw [hH]; intro z; cases z) rl.inv, List.getElem?_set_self (by rw [← rl.len]; exact hlt), dd, v, ed, nd, hd, rv⟩, rp.toS, ?_⟩, fun z => nomatch z⟩
          · by_cases hj : i = j
            · subst hj
              rw [List.getElem?_set_self hlt] at z
              cases z
            · rw [List.getElem?_set_ne hj] at z
              obtain ⟨v', e1, e2⟩ := rl.has j u z
              exact ⟨v', by rw [List.getElem?_set_ne hj]; exact e1, e2.chg⟩
          · cases q : su w (lo.set i none) s with
            | nx l2 s2 => rw [q] at h; exact fun ρ' H' σ' x y z => h ρ' H' _ x y.ofS (back z)
            | brk l2 s2 => rw [q] at h; exact fun ρ' H' σ' x y z => h ρ' H' _ x y.ofS (back z)
            | ct l2 s2 => rw [q] at h; exact fun ρ' H' σ' x y z => h ρ' H' _ x y.ofS (back z)
            | ret w2 s2 => rw [q] at h; exact fun ρ' H' v' x y z => h ρ' H' v' x y.ofS z.chg
            | exc _ _ _ _ => rw [q] at h; exact h.elim
            | bad => rw [q] at h; exact h.elim
        · rw [if_neg hlt] at h; exact h.elim
      · rw [if_neg e] at h
        by_cases e2 : c ∈ no
        · rw [if_pos e2] at h
          exact ⟨false, hn c e2, (fun z => nomatch z), fun _ => way c w d D ρ H σ lo s rl rp rx h⟩
        · rw [if_neg e2] at h; exact h.elim
theorem ss_try {body : List Stmt} {h0 : ExceptHandler} {hds : List ExceptHandler} {mb : Lo → S → RS} {hs : List HC} {pos : Pos} (hH : G.hold = none) (cn : Cn X E k) (hst : X.stack = X.env :: X.outer) (hfr : X.env.frame = some X.env.locals)
    (hb : ∀ (W : WX) (pn : List (Addr × Obj)) (xe : Value → Shared → Prop), Cn (X.tr pn xe) W k → SB G p W (X.tr pn xe) body mb) (hh : HS G p X hH (h0 :: hds) hs) : SS G p E X (.Try body (h0 :: hds) [] [] pos) (sTry mb hs) := by
  obtain ⟨l, hl, way⟩ := hs_way (E := E) (fun a pn => cs_of cn a pn) hh
  refine PS_imp (ps_tryN (tb := fun W => tS G p W mb) cn.nd hst hfr cn.tk (fun W pn xe tk own => hb W pn xe ⟨cn.calm, cn.room, tk, own, cn.nd, cn.gd⟩) hl) fun D σ H ⟨ρ, lo, s, rl, rp, h⟩ => ⟨ρ, lo, s, rl, rp, ?_⟩
  unfold sTry at h
  cases q : mb lo s with
  | exc c w l1 s1 =>
    rw [q] at h
    exact fun ρ' H' d σ' x y rx z => way c w d D ρ' H' σ' l1 s1 z y rx (PoS.base h x)
  | _ => rw [q] at h; exact h
end
end CC
set_option Elab.async false
set_option linter.all false
set_option maxRecDepth 100000
set_option maxHeartbeats 2000000
/-! CCFrame: a part of a body that is given only the slots that live, numbered anew -/
namespace CC
open PySem PySem.Spec PyProof.Rows L2

def refsL (live : List Nat) : Nat → Lo → List Nat
  | _, [] => []
  | i, o :: r => (if i ∈ live then (match o with | some w => refsW 0 w | none => []) else []) ++ refsL live (i + 1) r
def frmL (keep live : List Nat) : Nat → Lo → Option Lo
  | _, [] => some []
  | i, o :: r => match (if i ∈ live then o else none), frmL keep live (i + 1) r with
    | none, some r' => some (none :: r')
    | some w, some r' => (match rnW 0 keep w with | some w' => some (some w' :: r') | none => none)
    | _, none => none
def upL (keep : List Nat) (b : Nat) : Lo → Lo
  | [] => []
  | none :: r => none :: upL keep b r
  | some w :: r => some (upW keep b w) :: upL keep b r
def frmK (mf : Hh → Lo → S → RS) (live : List Nat) (p : Hh) (l : Lo) (s : S) (keep : List Nat) : RS := match frmL keep live 0 l, rnCells p s keep keep with
  | some lc, some pc => (match mf pc lc ⟨[], []⟩ with
    | .nx l2 s2 => .nx (upL keep (nxt p s) l2) (upS p keep s s2)
    | .brk l2 s2 => .brk (upL keep (nxt p s) l2) (upS p keep s s2)
    | .ct l2 s2 => .ct (upL keep (nxt p s) l2) (upS p keep s s2)
    | .ret w s2 => .ret (upW keep (nxt p s) w) (upS p keep s s2)
    | .exc c w l2 s2 => .exc c (upW keep (nxt p s) w) (upL keep (nxt p s) l2) (upS p keep s s2)
    | .bad => .bad)
  | _, _ => .bad
def sFrame (live : List Nat) (mf : Hh → Lo → S → RS) (p : Hh) : Lo → S → RS := fun l s => frmK mf live p l s (match refsL live 0 l with
  | [] => []
  | r => closeR p s 100000 r [])
theorem frmL_get {keep live : List Nat} : ∀ {i : Nat} {l lc : Lo}, frmL keep live i l = some lc → lc.length = l.length ∧ ∀ (j : Nat) (w' : W), lc[j]? = some (some w') → ∃ w, l[j]? = some (some w) ∧ rnW 0 keep w = some w'
  | i, [], lc, h => by simp only [frmL] at h; cases h; exact ⟨rfl, fun j w' e => by simp at e⟩
  | i, o :: r, lc, h => by
    simp only [frmL] at h
    cases q2 : frmL keep live (i + 1) r with
    | none =>
      rw [q2] at h
      revert h
      cases (if i ∈ live then o else none) <;> (intro h; cases h)
    | some r' =>
      rw [q2] at h
      obtain ⟨h1, h2⟩ := frmL_get q2
      cases q : (if i ∈ live then o else none) with
      | none =>
        rw [q] at h
        cases h
        refine ⟨by simp [h1], fun j w' e => ?_⟩
        cases j with
        | zero => simp at e
        | succ j => exact h2 j w' (by simpa using e)
      | some w =>
        rw [q] at h
        dsimp only at h
        cases q3 : rnW 0 keep w with
        | none => rw [q3] at h; cases h
        | some w1 =>
          rw [q3] at h
          cases h
          have eo : o = some w := by
            by_cases hi : i ∈ live
            · rw [if_pos hi] at q; exact q
            · rw [if_neg hi] at q; cases q
          refine ⟨by simp [h1], fun j w' e => ?_⟩
          cases j with
          | zero => simp at e; subst e; exact ⟨w, by rw [eo]; rfl, q3⟩
          | succ j => exact h2 j w' (by simpa using e)
theorem upL_get {keep : List Nat} {b : Nat} : ∀ {l : Lo}, (upL keep b l).length = l.length ∧ ∀ (j : Nat) (w' : W), (upL keep b l)[j]? = some (some w') → ∃ w, l[j]? = some (some w) ∧ w' = upW keep b w
  | [] => ⟨rfl, fun j w' e => by simp [upL] at e⟩
  | none :: r => by
    obtain ⟨h1, h2⟩ := upL_get (keep := keep) (b := b) (l := r)
    refine ⟨by simp [upL, h1], fun j w' e => ?_⟩
    cases j with
    | zero => simp [upL] at e
    | succ j => exact h2 j w' (by simpa [upL] using e)
  | some w :: r => by
    obtain ⟨h1, h2⟩ := upL_get (keep := keep) (b := b) (l := r)
    refine ⟨by simp [upL, h1], fun j w' e => ?_⟩
    cases j with
    | zero => simp [upL] at e; exact ⟨w, rfl, e.symm⟩
    | succ j => exact h2 j w' (by simpa [upL] using e)
section
variable {G : GE} {X : Cx} {E : WX} {p : Hh}
theorem sb_frame {sts : List Stmt} {mf : Hh → Lo → S → RS} (live : List Nat) (hJ : ∀ ρ σ H, G.J ρ σ H) (hb : ∀ p, SB G p E X sts (mf p)) : SB G p E X sts (sFrame live mf p) := by
  refine ⟨fun pins s0 σ H D I ⟨ρ, l, s, rl, rp, h⟩ => ?_⟩
  unfold sFrame at h
  have key : ∀ keep : List Nat, keep.Nodup → (∀ m ∈ keep, m < nxt p s) → PoS G p ρ H (frmK mf live p l s keep) D E → ∃ ρc pc lc, RL G ρc H lc σ ∧ Rep G ρc pc ⟨[], []⟩ H ∧ PoS G pc ρc H (mf pc lc ⟨[], []⟩) D E := fun keep nd lt h => by
    unfold frmK at h
    cases q1 : frmL keep live 0 l with
    | none => rw [q1] at h; exact h.elim
    | some lc =>
      cases q2 : rnCells p s keep keep with
      | none => rw [q1, q2] at h; exact h.elim
      | some pc =>
        rw [q1, q2] at h
        dsimp only at h
        obtain ⟨pl, pg⟩ := rnCells_get q2
        have rk : ∀ j m : Nat, keep[j]? = some m → (keep.map fun m => ρ.getD m 0)[j]? = ρ[m]? := fun j m e => by
          rw [List.getElem?_map, e]
          have hm : m < ρ.length := by rw [rp.len]; exact lt m (List.mem_of_getElem? e)
          simp [List.getD, List.getElem?_eq_getElem hm]
        have lk : (keep.map fun m => ρ.getD m 0).length = keep.length := List.length_map ..
        generalize (keep.map fun m => ρ.getD m 0) = ρc at rk lk
        obtain ⟨sub, ndc, rpc⟩ := cells_down rp nd lt q2 rk lk
        have hi : ∀ (j m : Nat) (a : Addr), keep[j]? = some m → ρ[0 + m]? = some a → ρc[0 + j]? = some a := fun j m a e e2 => by
          rw [Nat.zero_add] at e2 ⊢
          rw [rk j m e]; exact e2
        have lo : ∀ (m : Nat) (a : Addr), m < 0 → ρ[m]? = some a → ρc[m]? = some a := fun m a z => absurd z (Nat.not_lt_zero m)
        obtain ⟨f1, f2⟩ := frmL_get q1
        have rlc : RL G ρc H lc σ := ⟨f1.trans rl.len, fun j w' e => by
          obtain ⟨w, g1, g2⟩ := f2 j w' e
          obtain ⟨v, g3, g4⟩ := rl.has j w g1
          exact ⟨v, g3, rn_ok sub lo hi g2 g4⟩, hJ _ _ _⟩
        refine ⟨ρc, pc, lc, rlc, rpc, ?_⟩
        have upR : ∀ {l2 : Lo} {l' : List Addr} {H' : Hp} {σ' : L2.St}, (∀ w v, RV G (ρc ++ l') H' w v → RV G (ρ ++ l') H' (upW keep (nxt p s) w) v) → RL G (ρc ++ l') H' l2 σ' → RL G (ρ ++ l') H' (upL keep (nxt p s) l2) σ' := fun {l2 l' H' σ'} a3 r => by
          obtain ⟨u1, u2⟩ := upL_get (keep := keep) (b := nxt p s) (l := l2)
          refine ⟨u1.trans r.len, fun j w' e => ?_, hJ _ _ _⟩
          obtain ⟨w, g1, rfl⟩ := u2 j w' e
          obtain ⟨v, g3, g4⟩ := r.has j w g1
          exact ⟨v, g3, a3 w v g4⟩
        cases q3 : mf pc lc ⟨[], []⟩ with
        | bad => rw [q3] at h; exact h
        | nx l2 s' =>
          rw [q3] at h
          intro ρ' H' σ' x rp' rl'
          obtain ⟨l', rfl⟩ := x.pre
          obtain ⟨a1, a2, a3, _⟩ := after_up rp nd lt q2 rk lk x rp'
          exact h _ _ _ a1 a2 (upR a3 rl')
        | brk l2 s' =>
          rw [q3] at h
          intro ρ' H' σ' x rp' rl'
          obtain ⟨l', rfl⟩ := x.pre
          obtain ⟨a1, a2, a3, _⟩ := after_up rp nd lt q2 rk lk x rp'
          exact h _ _ _ a1 a2 (upR a3 rl')
        | ct l2 s' =>
          rw [q3] at h
          intro ρ' H' σ' x rp' rl'
          obtain ⟨l', rfl⟩ := x.pre
          obtain ⟨a1, a2, a3, _⟩ := after_up rp nd lt q2 rk lk x rp'
          exact h _ _ _ a1 a2 (upR a3 rl')
        | ret w s' =>
          rw [q3] at h
          intro ρ' H' v x rp' rv'
          obtain ⟨l', rfl⟩ := x.pre
          obtain ⟨a1, a2, a3, _⟩ := after_up rp nd lt q2 rk lk x rp'
          exact h _ _ _ a1 a2 (a3 w v rv')
        | exc c w l2 s' =>
          rw [q3] at h
          intro ρ' H' d σ' x rp' rx rl'
          obtain ⟨l', rfl⟩ := x.pre
          obtain ⟨a1, a2, a3, a4⟩ := after_up rp nd lt q2 rk lk x rp'
          refine h _ _ _ _ a1 a2 ?_ (upR a3 rl')
          unfold RX at rx ⊢
          split
          · trivial
          · rename_i f hf
            rw [hf] at rx
            obtain ⟨dd, v, e1, n, e2, q⟩ := rx
            exact ⟨dd, v, e1, a4 _ _ e2 n, e2, a3 w v q⟩
  have fin : ∃ ρc pc lc, RL G ρc H lc σ ∧ Rep G ρc pc ⟨[], []⟩ H ∧ PoS G pc ρc H (mf pc lc ⟨[], []⟩) D E := by
    refine key _ ?_ ?_ h
    · split
      · exact List.nodup_nil
      · exact (closeR_nd List.nodup_nil (fun m hm => by cases hm)).1
    · split
      · exact fun m hm => by cases hm
      · exact (closeR_nd List.nodup_nil (fun m hm => by cases hm)).2
  obtain ⟨ρc, pc, lc, rlc, rpc, hq⟩ := fin
  exact (hb pc).run pins s0 σ H D I ⟨ρc, lc, _, rlc, rpc, hq⟩
end
end CC
set_option Elab.async false
set_option linter.all false
set_option maxRecDepth 100000
/-! CCFacts: what the printed texts ask of the written part -/
namespace CC
open PySem PySem.Spec PyProof.Rows L2

theorem no_nil {P : Nat → Prop} : ∀ j ∈ ([] : List Nat), P j := fun j h => by cases h
theorem no_cons {P : Nat → Prop} {a : Nat} {l : List Nat} (h : P a) (r : ∀ j ∈ l, P j) : ∀ j ∈ a :: l, P j := fun j m => by
  rcases List.mem_cons.mp m with e | m
  · rw [e]; exact h
  · exact r j m
section
variable {K : PySem.W.Frag} {C : Addr}
theorem oex_mk {nm q : Str} {N : Addr} {bs bm : List Value} {sn : List Str} {sub : List Value} {ab : Bool} {col : Option Bool} {dd : Option Addr} {k0 k1 k2 k3 k5 : Option Value} (l : K.lookup C = some (excClassObj nm q C N bs bm true sn sub ab col dd k0 k1 k2 k3 k5 "ValueError.__new__")) (b : PySem.HandSPX.refsVE bm = true)
    (sa : PySem.W.findIn K (.ref C) "__setattr__" = some (some (.builtin "object.__setattr__"))) (exC : PySem.W.subIn K (.ref C) (.type "BaseException") = some true) (tyC : PySem.W.typeIn K (.ref C) = some (.type "type")) (kC : PySem.W.keepIn K (.ref C) = true) : OexC K C :=
  ⟨⟨nm, q, N, bs, bm, sn, sub, ab, col, dd, k0, k1, k2, k3, k5, l, b⟩, sa, exC, tyC, kC⟩
theorem exi_mk (ga : PySem.W.findIn K (.ref C) "__getattribute__" = some (some (.builtin "BaseException.__getattribute__"))) (gg : PySem.W.findIn K (.ref C) "__getattr__" = some none) (ex : PySem.W.subIn K (.ref C) (.type "BaseException") = some true) (hd : PySem.W.hasDictIn K C = true)
    (ha : PySem.W.findIn K (.ref C) "__class__" = some (some (.builtin "object.__class__"))) (hn : PySem.W.specialIn K (.builtin "object.__class__") "__get__" = some (some (.builtin "getset_descriptor.__get__"))) (ht : PySem.W.takesIn K (.builtin "object.__class__") = some true) (hm : PySem.W.mroIn K C (.type "object") = some true) : XfC K C ∧ ExcC K C :=
  ⟨⟨ga, gg, ex, hd⟩, ⟨ga, gg, ex, hd, ha, hn, ht, hm⟩⟩
end
/-- the addresses of the text's classes by their numbers -/
def gcOf : List Addr → Nat → Addr
  | [], _ => 0
  | a :: _, 0 => a
  | _ :: r, n + 1 => gcOf r n
/-- an own exception that may be raised -/
theorem xc_mk {G : GE} {P : Program} {w : World} {K : PySem.W.Frag} {mg : Str → Option Value} {base : Heap} {c : Nat} {x f : Str} {fI : Addr} {fd : FuncData} {ps : List Str} (T : OexC K (G.cls c)) (fl : G.fld c = [f]) (nm : mg x = some (.ref (G.cls c))) (i1 : PySem.W.findIn K (.ref (G.cls c)) "__init__" = some (some (.ref fI))) (i2 : PySem.W.typeIn K (.ref fI) = some (.type "function")) (g : FnG P w K mg base 1 fI fd ps (spX K (G.cls c) f)) (b : Binds K fd ps []) : XC G P w K mg base c x f :=
  ⟨T, fl, nm, fI, fd, ps, i1, i2, g, b⟩
end CC
set_option Elab.async false
set_option linter.all false
set_option maxRecDepth 100000
set_option maxHeartbeats 4000000
namespace K03
open PySem PySem.Spec PyProof.Rows L2 CC
def top (i : Nat) : Stmt := PySem.Challenge.pw_cupcap_k03_identities_and_generators.main.body.getD i (.Pass ⟨0, 0, 0, 0⟩)
def fldG : Nat → List Str
  | 0 => []
  | 1 => ["value"]
  | 2 => ["value"]
  | 3 => ["value"]
  | 4 => ["ends", "width"]
  | _ => []
abbrev GG (gc : Nat → Addr) : GE := GE.of gc fldG
theorem nd_4 : (fldG 4).Nodup := by decide +kernel
theorem nm_4___init__ : ("__init__" : Str) ∉ fldG 4 := by decide +kernel
theorem nm_4_columns : ("columns" : Str) ∉ fldG 4 := by decide +kernel
theorem nm_4_partners : ("partners" : Str) ∉ fldG 4 := by decide +kernel
theorem nm_4_partner : ("partner" : Str) ∉ fldG 4 := by decide +kernel
theorem nm_4_arcs : ("arcs" : Str) ∉ fldG 4 := by decide +kernel
theorem nm_4_caps : ("caps" : Str) ∉ fldG 4 := by decide +kernel
theorem nm_4_cups : ("cups" : Str) ∉ fldG 4 := by decide +kernel
theorem nm_4_through : ("through" : Str) ∉ fldG 4 := by decide +kernel
theorem nm_4___eq__ : ("__eq__" : Str) ∉ fldG 4 := by decide +kernel
abbrev s_Diagram_partners : Stmt := inClass (top 14) 2
abbrev s_Diagram___eq__ : Stmt := inClass (top 14) 8
abbrev s_is_integer : Stmt := top 8
abbrev s_is_columns : Stmt := top 9
abbrev s_check_columns : Stmt := top 10
abbrev s_border_walk : Stmt := top 11
abbrev s_has_crossing : Stmt := top 12
abbrev s_is_partners : Stmt := top 13
abbrev s_Diagram___init__ : Stmt := inClass (top 14) 0
abbrev s_from_arcs : Stmt := top 15
abbrev s_generator : Stmt := top 17
abbrev s_identity : Stmt := top 16
abbrev s__law_caught : Stmt := top 22
abbrev s__law_generator : Stmt := top 21
abbrev s__law_pool : Stmt := top 19
abbrev s__law_take : Stmt := top 20
abbrev s_law : Stmt := top 23
/-! ### mirrors -/
def b_Diagram_partners (p : Hh) : Lo → S → RS :=
    (sRet (eFld 4 0 p (eVar 0)))
def m_Diagram_partners : Hh → List W → R W := fnI 1 1 b_Diagram_partners
def b_Diagram___eq__ (p : Hh) : Lo → S → RS :=
    (sRet (eAndV (eIsi p (qOwn [(4, true)]) (eVar 1)) (eBin gEq p (eFld 4 0 p (eVar 0)) (eMeth 4 m_Diagram_partners p [] (eVar 1) aNil))))
def m_Diagram___eq__ : Hh → List W → R W := fnI 2 2 b_Diagram___eq__
def b_is_integer (p : Hh) : Lo → S → RS :=
    (sRet (eAndV (eIsi p (qInt []) (eVar 0)) (eAndV (eNotV (eIsi p (qBool []) (eVar 0))) (eBin gGe p (eVar 0) (eVar 1)))))
def m_is_integer : Hh → List W → R W := fnI 2 2 b_is_integer
def b_is_columns (p : Hh) : Lo → S → RS :=
    (sRet (eAndV (eCall m_is_integer p [] (aCons (eVar 0) (aCons (eC (.int 1)) aNil))) (eBin gLe p (eVar 0) (eC (.int 16)))))
def m_is_columns : Hh → List W → R W := fnI 1 1 b_is_columns
def b_check_columns (p : Hh) : Lo → S → RS :=
    (sIf (tNotT (tVal (eCall m_is_columns p [] (aCons (eVar 0) aNil)))) (sRaise 2 (eVar 0)) sNx)
def m_check_columns : Hh → List W → R W := fnI 1 1 b_check_columns
def b_border_walk (p : Hh) : Lo → S → RS :=
    (sRet (eBin gAdd p (eRgL p (iRange1 (eVar 0))) (eRgL p (iRange3 (eBin gSub p (eBin gMul p (eC (.int 2)) (eVar 0)) (eC (.int 1))) (eBin gSub p (eVar 0) (eC (.int 1))) (eUn gNeg p (eC (.int 1)))))))
def m_border_walk : Hh → List W → R W := fnI 1 1 b_border_walk
def b_has_crossing (p : Hh) : Lo → S → RS :=
    (sSeq (sPar2 1 2 (aCons (eLst p aNil) (aCons (eDct p) aNil)))
    (sSeq (sFor p (gNm 3) (iSeq (eCall m_border_walk p [] (aCons (eBin gFdiv p (eB fLen p (aCons (eVar 0) aNil)) (eC (.int 2))) aNil)) p) (sSeq (sIf (tVal (eBin gNotInA p (eIx p (eVar 0) (eVar 3)) (eVar 2))) (sEx (eBm isLst fAppend p (eVar 1) (aCons (eVar 3) aNil))) (sIf (tVal (eBin gNe p (eBm isLst fPop p (eVar 1) aNil) (eIx p (eVar 0) (eVar 3)))) (sRet (eC (.bl true))) sNx))
    (sAsg (gSubT gSetX p (eVar 2) (eVar 3)) (eC (.bl true)))))
    (sRet (eC (.bl false)))))
def m_has_crossing : Hh → List W → R W := fnI 1 4 b_has_crossing
def b_is_partners (p : Hh) : Lo → S → RS :=
    (sSeq (sIf (tOrT (tNotT (tVal (eIsi p (qTup []) (eVar 0)))) (tOrT (tVal (eBin (gEqO 4 m_Diagram___eq__) p (eBin gMod p (eB fLen p (aCons (eVar 0) aNil)) (eC (.int 2))) (eC (.int 1)))) (tNotT (tVal (eCall m_is_columns p [] (aCons (eBin gFdiv p (eB fLen p (aCons (eVar 0) aNil)) (eC (.int 2))) aNil)))))) (sRet (eC (.bl false))) sNx)
    (sSeq (sIf (tNotT (tVal (eB fAll p (aCons (eLc p (CTg.nm 1) (iSeq (eVar 0) p) tTrue (eAndV (eCall m_is_integer p [.int 0] (aCons (eVar 1) aNil)) (eBin gLt p (eVar 1) (eB fLen p (aCons (eVar 0) aNil))))) aNil)))) (sRet (eC (.bl false))) sNx)
    (sRet (eAndV (eB fAll p (aCons (eLc p (CTg.pr 2 1) (iEnm (eVar 0) p) tTrue (eChain gEq gNe p (eIx p (eVar 0) (eVar 1)) (eVar 2) (eVar 1))) aNil)) (eNotV (eCall m_has_crossing p [] (aCons (eVar 0) aNil)))))))
def m_is_partners : Hh → List W → R W := fnI 1 3 b_is_partners
def b_Diagram___init__ (p : Hh) : Lo → S → RS :=
    (sSeq (sIf (tNotT (tVal (eCall m_is_partners p [] (aCons (eVar 1) aNil)))) (sRaise 1 (eVar 1)) sNx)
    (sSeq (sFldA 4 0 p (eVar 0) (eVar 1))
    (sFldA 4 1 p (eVar 0) (eBin gFdiv p (eB fLen p (aCons (eVar 1) aNil)) (eC (.int 2))))))
def m_Diagram___init__ : Hh → List W → R W := fnI 2 2 b_Diagram___init__
def b_from_arcs (p : Hh) : Lo → S → RS :=
    (sSeq (sAsg (gNm 2) (eBin gMul p (eLst p (aCons (eC (.int 0)) aNil)) (eBin gMul p (eC (.int 2)) (eVar 0))))
    (sSeq (sFor p (gTupT 2 (gsCons (gNm 3) (gsCons (gNm 4) gsNil))) (iSeq (eVar 1) p) (sAsg (gTupT 2 (gsCons (gSubT gSetX p (eVar 2) (eVar 3)) (gsCons (gSubT gSetX p (eVar 2) (eVar 4)) gsNil))) (eTup (aCons (eVar 4) (aCons (eVar 3) aNil)))))
    (sRet (eMakeM 4 m_Diagram___init__ p [] (aCons (eB fTuple p (aCons (eVar 2) aNil)) aNil)))))
def m_from_arcs : Hh → List W → R W := fnI 2 5 b_from_arcs
def b_generator (p : Hh) : Lo → S → RS :=
    (sSeq (sEx (eCall m_check_columns p [] (aCons (eVar 0) aNil)))
    (sSeq (sIf (tOrT (tNotT (tVal (eCall m_is_integer p [.int 0] (aCons (eVar 1) aNil)))) (tVal (eBin gGt p (eVar 1) (eBin gSub p (eVar 0) (eC (.int 2)))))) (sRaise 3 (eVar 1)) sNx)
    (sSeq (sAsg (gNm 2) (eLc p (CTg.nm 3) (iRange1 (eVar 0)) (tVal (eBin gNotInA p (eVar 3) (eTup (aCons (eVar 1) (aCons (eBin gAdd p (eVar 1) (eC (.int 1))) aNil))))) (eTup (aCons (eVar 3) (aCons (eBin gAdd p (eVar 0) (eVar 3)) aNil)))))
    (sRet (eCall m_from_arcs p [] (aCons (eVar 0) (aCons (eBin gAdd p (eVar 2) (eLst p (aCons (eTup (aCons (eVar 1) (aCons (eBin gAdd p (eVar 1) (eC (.int 1))) aNil))) (aCons (eTup (aCons (eBin gAdd p (eVar 0) (eVar 1)) (aCons (eBin gAdd p (eBin gAdd p (eVar 0) (eVar 1)) (eC (.int 1))) aNil))) aNil)))) aNil)))))))
def m_generator : Hh → List W → R W := fnI 2 4 b_generator
def b_identity (p : Hh) : Lo → S → RS :=
    (sSeq (sEx (eCall m_check_columns p [] (aCons (eVar 0) aNil)))
    (sRet (eCall m_from_arcs p [] (aCons (eVar 0) (aCons (eLc p (CTg.nm 1) (iRange1 (eVar 0)) tTrue (eTup (aCons (eVar 1) (aCons (eBin gAdd p (eVar 0) (eVar 1)) aNil)))) aNil)))))
def m_identity : Hh → List W → R W := fnI 1 2 b_identity
def b__law_caught (p : Hh) : Lo → S → RS :=
    (sTry (sRet (eLst p (aCons (eC (.str "diagram")) (aCons (eIf (tVal (eBin (gEqO 4 m_Diagram___eq__) p (eVar 0) (eC (.int 0)))) (eMeth 4 m_Diagram_partners p [] (eCall m_identity p [] (aCons (eVar 1) aNil)) aNil) (eMeth 4 m_Diagram_partners p [] (eCall m_generator p [] (aCons (eVar 1) (aCons (eVar 2) aNil))) aNil)) aNil)))) [⟨2, [1, 3], some 3, fun w => (sRet (eLst p (aCons (eC (.str "columns")) (aCons (eB fRepr p (aCons (eC w) aNil)) (aCons (eC (.bl true)) aNil)))))⟩, ⟨3, [1, 2], some 3, fun w => (sRet (eLst p (aCons (eC (.str "number")) (aCons (eB fRepr p (aCons (eC w) aNil)) (aCons (eC (.bl true)) aNil)))))⟩])
def m__law_caught : Hh → List W → R W := fnI 3 4 b__law_caught
def b__law_generator (p : Hh) : Lo → S → RS :=
    (sSeq (sAsg (gNm 2) (eBin gAdd p (eRgL p (iRange2 (eVar 0) (eBin gMul p (eC (.int 2)) (eVar 0)))) (eRgL p (iRange1 (eVar 0)))))
    (sSeq (sFor p (gNm 3) (iSeq (eLst p (aCons (eVar 1) (aCons (eBin gAdd p (eVar 0) (eVar 1)) aNil))) p) (sAsg (gTupT 2 (gsCons (gSubT gSetX p (eVar 2) (eVar 3)) (gsCons (gSubT gSetX p (eVar 2) (eBin gAdd p (eVar 3) (eC (.int 1)))) gsNil))) (eTup (aCons (eBin gAdd p (eVar 3) (eC (.int 1))) (aCons (eVar 3) aNil)))))
    (sRet (eB fTuple p (aCons (eVar 2) aNil)))))
def m__law_generator : Hh → List W → R W := fnI 2 4 b__law_generator
def b__law_pool (p : Hh) : Lo → S → RS :=
    (sSeq (sAsg (gNm 2) (eC (.int 0)))
    (sSeq (sIf (tVal (eBin gLt p (eVar 1) (eB fLen p (aCons (eVar 0) aNil)))) (sAsg (gNm 2) (eB fAbs p (aCons (eIx p (eVar 0) (eVar 1)) aNil))) sNx)
    (sSeq (sAsg (gNm 3) (eBin gMod p (eBin gMul p (eBin gAdd p (eBin gAdd p (eBin gAdd p (eBin gMod p (eVar 2) (eC (.int 2147483629))) (eBin gMul p (eBin gMul p (eC (.int 7919)) (eVar 1)) (eVar 1))) (eBin gMul p (eC (.int 31)) (eVar 1))) (eC (.int 17))) (eC (.int 48271))) (eC (.int 2147483647))))
    (sRet (eLst p (aCons (eBin gMul p (eVar 2) (eB fInt p (aCons (eBin gGe p (eVar 2) (eBin gPow p (eC (.int 10)) (eC (.int 18)))) aNil))) (aCons (eBin gMod p (eBin gMul p (eVar 3) (eVar 3)) (eC (.int 2147483629))) aNil)))))))
def m__law_pool : Hh → List W → R W := fnI 2 4 b__law_pool
def b__law_take (p : Hh) : Lo → S → RS :=
    (sSeq (sIf (tVal (eBin gGt p (eIx p (eVar 0) (eC (.int 0))) (eC (.int 0)))) (sSeq (sAsg (gNm 2) (eBin gMod p (eIx p (eVar 0) (eC (.int 0))) (eVar 1)))
    (sSeq (sAsg (gSubT gSetX p (eVar 0) (eC (.int 0))) (eBin gFdiv p (eIx p (eVar 0) (eC (.int 0))) (eVar 1)))
    (sRet (eVar 2)))) sNx)
    (sSeq (sAsg (gSubT gSetX p (eVar 0) (eC (.int 1))) (eBin gMod p (eBin gAdd p (eBin gMul p (eIx p (eVar 0) (eC (.int 1))) (eC (.int 48271))) (eC (.int 12345))) (eC (.int 2147483647))))
    (sRet (eBin gMod p (eBin gFdiv p (eBin gMod p (eBin gMul p (eIx p (eVar 0) (eC (.int 1))) (eIx p (eVar 0) (eC (.int 1)))) (eC (.int 2147483629))) (eC (.int 64))) (eVar 1)))))
def m__law_take : Hh → List W → R W := fnI 2 3 b__law_take
def b_law_1 (p : Hh) : Lo → S → RS :=
    (sIf (tVal (eBin gNe p (eCall m__law_caught p [] (aCons (eC (.int 1)) (aCons (eVar 3) (aCons (eVar 5) aNil)))) (eLst p (aCons (eC (.str "diagram")) (aCons (eCall m__law_generator p [] (aCons (eVar 3) (aCons (eVar 5) aNil))) aNil))))) (sRet (eC (.bl false))) sNx)
def b_law_2 (p : Hh) : Lo → S → RS :=
    (sIf (tVal (eBin gNe p (eCall m__law_caught p [] (aCons (eC (.int 1)) (aCons (eVar 3) (aCons (eVar 5) aNil)))) (eLst p (aCons (eC (.str "number")) (aCons (eB fRepr p (aCons (eVar 5) aNil)) (aCons (eC (.bl true)) aNil)))))) (sRet (eC (.bl false))) sNx)
def b_law_3 (p : Hh) : Lo → S → RS :=
    (sIf (tVal (eBin gNe p (eLc p (CTg.nm 7) (iRange1 (eC (.int 2))) tTrue (eCall m__law_caught p [] (aCons (eVar 7) (aCons (eVar 6) (aCons (eC .non) aNil))))) (eBin gMul p (eLst p (aCons (eLst p (aCons (eC (.str "columns")) (aCons (eB fRepr p (aCons (eVar 6) aNil)) (aCons (eC (.bl true)) aNil)))) aNil)) (eC (.int 2))))) (sRet (eC (.bl false))) sNx)
def b_law_4 (p : Hh) : Lo → S → RS :=
    (sFor p (gNm 6) (iSeq (eLst p (aCons (eC (.int 0)) (aCons (eC (.int 17)) (aCons (eUn gNeg p (eC (.int 1))) (aCons (eC (.bl true)) (aCons (eC .non) (aCons (eC (.str "3")) (aCons (eLst p (aCons (eC (.int 3)) aNil)) (aCons (eDct p) (aCons (eBin gPow p (eC (.int 10)) (eC (.int 20))) aNil)))))))))) p) (sFrame [0, 6] b_law_3 p))
def b_law_5 (p : Hh) : Lo → S → RS :=
    (sSeq (sFor p (gNm 5) (iSeq (eLst p (aCons (eUn gNeg p (eC (.int 1))) (aCons (eBin gSub p (eVar 3) (eC (.int 1))) (aCons (eVar 3) (aCons (eC (.bl true)) (aCons (eC (.bl false)) (aCons (eC .non) (aCons (eC (.str "0")) (aCons (eLst p (aCons (eC (.int 0)) aNil)) (aCons (eBin gPow p (eC (.int 10)) (eC (.int 20))) aNil)))))))))) p) (sFrame [0, 3, 5] b_law_2 p))
    (sFrame [0] b_law_4 p))
def b_law_6 (p : Hh) : Lo → S → RS :=
    (sSeq (sAsg (gNm 4) (eB fTuple p (aCons (eBin gAdd p (eRgL p (iRange2 (eVar 3) (eBin gMul p (eC (.int 2)) (eVar 3)))) (eRgL p (iRange1 (eVar 3)))) aNil)))
    (sSeq (sIf (tVal (eBin gNe p (eCall m__law_caught p [] (aCons (eC (.int 0)) (aCons (eVar 3) (aCons (eC .non) aNil)))) (eLst p (aCons (eC (.str "diagram")) (aCons (eVar 4) aNil))))) (sRet (eC (.bl false))) sNx)
    (sSeq (sFor p (gNm 5) (iRange1 (eBin gSub p (eVar 3) (eC (.int 1)))) (sFrame [0, 3, 5] b_law_1 p))
    (sFrame [0, 3] b_law_5 p))))
def b_law_7 (p : Hh) : Lo → S → RS :=
    (sSeq (sAsg (gNm 2) (eCall m__law_pool p [] (aCons (eVar 0) (aCons (eVar 1) aNil))))
    (sSeq (sAsg (gNm 3) (eBin gAdd p (eC (.int 1)) (eCall m__law_take p [] (aCons (eVar 2) (aCons (eC (.int 16)) aNil)))))
    (sFrame [0, 3] b_law_6 p)))
def b_law_8 (p : Hh) : Lo → S → RS :=
    (sRet (eBin (gEqO 4 m_Diagram___eq__) p (eMeth 4 m_Diagram_partners p [] (eCall m_generator p [] (aCons (eC (.int 2)) (aCons (eC (.int 0)) aNil))) aNil) (eTup (aCons (eC (.int 1)) (aCons (eC (.int 0)) (aCons (eC (.int 3)) (aCons (eC (.int 2)) aNil)))))))
def b_law (p : Hh) : Lo → S → RS :=
    (sSeq (sFor p (gNm 1) (iRange1 (eB fMax2 p (aCons (eC (.int 1)) (aCons (eB fMin2 p (aCons (eC (.int 10)) (aCons (eB fLen p (aCons (eVar 0) aNil)) aNil))) aNil)))) (sFrame [0, 1] b_law_7 p))
    (sFrame [] b_law_8 p))
def m_law : Hh → List W → R W := fnI 1 8 b_law
/-! ### facts of the text -/
structure TT (mg : Str → Option Value) (T_MAX_COLUMNS : Tok) : Prop where
  n_abs : mg "abs" = none
  n_all : mg "all" = none
  n_bool : mg "bool" = none
  n_enumerate : mg "enumerate" = none
  n_int : mg "int" = none
  n_isinstance : mg "isinstance" = none
  n_len : mg "len" = none
  n_list : mg "list" = none
  n_max : mg "max" = none
  n_min : mg "min" = none
  n_range : mg "range" = none
  n_repr : mg "repr" = none
  n_tuple : mg "tuple" = none
  c_MAX_COLUMNS : mg "MAX_COLUMNS" = some (.int 16 T_MAX_COLUMNS)
structure MM (mg : Str → Option Value) (f_Diagram_partners : Addr) (f_Diagram___eq__ : Addr) (f_is_integer : Addr) (f_is_columns : Addr) (f_check_columns : Addr) (f_border_walk : Addr) (f_has_crossing : Addr) (f_is_partners : Addr) (f_Diagram___init__ : Addr) (f_from_arcs : Addr) (f_generator : Addr) (f_identity : Addr) (f__law_caught : Addr) (f__law_generator : Addr) (f__law_pool : Addr) (f__law_take : Addr) (f_law : Addr) : Prop where
  m_is_integer : mg "is_integer" = some (.ref f_is_integer)
  m_is_columns : mg "is_columns" = some (.ref f_is_columns)
  m_check_columns : mg "check_columns" = some (.ref f_check_columns)
  m_border_walk : mg "border_walk" = some (.ref f_border_walk)
  m_has_crossing : mg "has_crossing" = some (.ref f_has_crossing)
  m_is_partners : mg "is_partners" = some (.ref f_is_partners)
  m_from_arcs : mg "from_arcs" = some (.ref f_from_arcs)
  m_generator : mg "generator" = some (.ref f_generator)
  m_identity : mg "identity" = some (.ref f_identity)
  m__law_caught : mg "_law_caught" = some (.ref f__law_caught)
  m__law_generator : mg "_law_generator" = some (.ref f__law_generator)
  m__law_pool : mg "_law_pool" = some (.ref f__law_pool)
  m__law_take : mg "_law_take" = some (.ref f__law_take)
  m_law : mg "law" = some (.ref f_law)
structure CF (mg : Str → Option Value) (K : PySem.W.Frag) (gc : Nat → Addr) (f_Diagram_partners : Addr) (f_Diagram___eq__ : Addr) (f_is_integer : Addr) (f_is_columns : Addr) (f_check_columns : Addr) (f_border_walk : Addr) (f_has_crossing : Addr) (f_is_partners : Addr) (f_Diagram___init__ : Addr) (f_from_arcs : Addr) (f_generator : Addr) (f_identity : Addr) (f__law_caught : Addr) (f__law_generator : Addr) (f__law_pool : Addr) (f__law_take : Addr) (f_law : Addr) : Prop where
  me_4_partners : Meth K (gc 4) "partners" f_Diagram_partners
  cc_4 : CC_ (GG gc) K 4
  eq_4 : PySem.W.findIn K (.ref (gc 4)) "__eq__" = some (some (.ref f_Diagram___eq__))
  me_4___eq__ : Meth K (gc 4) "__eq__" f_Diagram___eq__
  qi_4 : QI (GG gc) K (.ref (gc 4)) (qOwn [(4, true)])
  nm_Diagram : mg "Diagram" = some (.ref (gc 4))
  xe_3 : ExcC K (gc 3)
  kt_3_0 : PySem.W.kitOne K (.ref (gc 3)) (.ref (gc 0)) = some true
  nm_DiagramError : mg "DiagramError" = some (.ref (gc 0))
  xi_3 : XfC K (gc 3)
  xn_3 : PySem.W.findIn K (.ref (gc 3)) "value" = some none
  ex_3_3 : PySem.W.exmOne K (.ref (gc 3)) (.ref (gc 3)) = some true
  ex_2_3 : PySem.W.exmOne K (.ref (gc 2)) (.ref (gc 3)) = some false
  ex_1_3 : PySem.W.exmOne K (.ref (gc 1)) (.ref (gc 3)) = some false
  nm_InvalidNumber : mg "InvalidNumber" = some (.ref (gc 3))
  xe_2 : ExcC K (gc 2)
  kt_2_0 : PySem.W.kitOne K (.ref (gc 2)) (.ref (gc 0)) = some true
  xi_2 : XfC K (gc 2)
  xn_2 : PySem.W.findIn K (.ref (gc 2)) "value" = some none
  ex_2_2 : PySem.W.exmOne K (.ref (gc 2)) (.ref (gc 2)) = some true
  ex_3_2 : PySem.W.exmOne K (.ref (gc 3)) (.ref (gc 2)) = some false
  ex_1_2 : PySem.W.exmOne K (.ref (gc 1)) (.ref (gc 2)) = some false
  nm_InvalidColumns : mg "InvalidColumns" = some (.ref (gc 2))
  mk_4 : Mk K (gc 4) f_Diagram___init__
section
variable {P : Program} {w : World} {K : PySem.W.Frag} {mg : Str → Option Value} {base : Heap} {gc : Nat → Addr} {T_MAX_COLUMNS : Tok} {f_Diagram_partners : Addr} {f_Diagram___eq__ : Addr} {f_is_integer : Addr} {f_is_columns : Addr} {f_check_columns : Addr} {f_border_walk : Addr} {f_has_crossing : Addr} {f_is_partners : Addr} {f_Diagram___init__ : Addr} {f_from_arcs : Addr} {f_generator : Addr} {f_identity : Addr} {f__law_caught : Addr} {f__law_generator : Addr} {f__law_pool : Addr} {f__law_take : Addr} {f_law : Addr}
/-! ### exceptions -/
theorem sx_InvalidColumns : FnScope ["self", "value"] ["self", "value"] (defScope (inClass (top 4) 0)) := ⟨rfl, rfl, rfl, by decide +kernel, rfl, by decide +kernel, by decide +kernel⟩
theorem x_InvalidColumns {fI C CB : Addr} {fd : FuncData} {mc : Value} (F : Fun K "__init__" "InvalidColumns.__init__" (inClass (top 4) 0) fI fd) (T : OexC K C) (hno : PySem.W.findIn K (.ref C) "value" = some none) (hB : mg "DiagramError" = some (.ref CB)) (r : ClX.CRead K CB mc) (k : PySem.W.findCls K (.ref CB) mc "__init__" = some (.val (.builtin "ValueError.__init__"))) : FnG P w K mg base 1 fI fd ["self", "value"] (spX K C "value") :=
  xinit_ok F sx_InvalidColumns T hno fun cdv A outer s H E k0 cn => ⟨_, _, pss_cons (ps_expr (pe_binit (by rfl) hB r k (pa_cons (pe_var (i := 0) rfl (.inl rfl)) (pa_cons pe_str pa_nil))) rfl) (pss_one (ps_ost (pe_var (i := 0) rfl (.inl rfl)) (pe_var (i := 1) rfl (.inl rfl)))), rfl, _, rfl⟩
theorem sx_InvalidDiagram : FnScope ["self", "value"] ["self", "value"] (defScope (inClass (top 3) 0)) := ⟨rfl, rfl, rfl, by decide +kernel, rfl, by decide +kernel, by decide +kernel⟩
theorem x_InvalidDiagram {fI C CB : Addr} {fd : FuncData} {mc : Value} (F : Fun K "__init__" "InvalidDiagram.__init__" (inClass (top 3) 0) fI fd) (T : OexC K C) (hno : PySem.W.findIn K (.ref C) "value" = some none) (hB : mg "DiagramError" = some (.ref CB)) (r : ClX.CRead K CB mc) (k : PySem.W.findCls K (.ref CB) mc "__init__" = some (.val (.builtin "ValueError.__init__"))) : FnG P w K mg base 1 fI fd ["self", "value"] (spX K C "value") :=
  xinit_ok F sx_InvalidDiagram T hno fun cdv A outer s H E k0 cn => ⟨_, _, pss_cons (ps_expr (pe_binit (by rfl) hB r k (pa_cons (pe_var (i := 0) rfl (.inl rfl)) (pa_cons pe_str pa_nil))) rfl) (pss_one (ps_ost (pe_var (i := 0) rfl (.inl rfl)) (pe_var (i := 1) rfl (.inl rfl)))), rfl, _, rfl⟩
theorem sx_InvalidNumber : FnScope ["self", "value"] ["self", "value"] (defScope (inClass (top 5) 0)) := ⟨rfl, rfl, rfl, by decide +kernel, rfl, by decide +kernel, by decide +kernel⟩
theorem x_InvalidNumber {fI C CB : Addr} {fd : FuncData} {mc : Value} (F : Fun K "__init__" "InvalidNumber.__init__" (inClass (top 5) 0) fI fd) (T : OexC K C) (hno : PySem.W.findIn K (.ref C) "value" = some none) (hB : mg "DiagramError" = some (.ref CB)) (r : ClX.CRead K CB mc) (k : PySem.W.findCls K (.ref CB) mc "__init__" = some (.val (.builtin "ValueError.__init__"))) : FnG P w K mg base 1 fI fd ["self", "value"] (spX K C "value") :=
  xinit_ok F sx_InvalidNumber T hno fun cdv A outer s H E k0 cn => ⟨_, _, pss_cons (ps_expr (pe_binit (by rfl) hB r k (pa_cons (pe_var (i := 0) rfl (.inl rfl)) (pa_cons pe_str pa_nil))) rfl) (pss_one (ps_ost (pe_var (i := 0) rfl (.inl rfl)) (pe_var (i := 1) rfl (.inl rfl)))), rfl, _, rfl⟩
/-! ### derivations -/
theorem sc_Diagram_partners : FnScope ["self"] ["self"] (defScope s_Diagram_partners) := ⟨rfl, rfl, rfl, by decide +kernel, rfl, by decide +kernel, by decide +kernel⟩
theorem d_Diagram_partners {fd : FuncData} (T : TT mg T_MAX_COLUMNS) (M : MM mg f_Diagram_partners f_Diagram___eq__ f_is_integer f_is_columns f_check_columns f_border_walk f_has_crossing f_is_partners f_Diagram___init__ f_from_arcs f_generator f_identity f__law_caught f__law_generator f__law_pool f__law_take f_law) (Z : CF mg K gc f_Diagram_partners f_Diagram___eq__ f_is_integer f_is_columns f_check_columns f_border_walk f_has_crossing f_is_partners f_Diagram___init__ f_from_arcs f_generator f_identity f__law_caught f__law_generator f__law_pool f__law_take f_law) (F : Fun K "partners" "Diagram.partners" s_Diagram_partners f_Diagram_partners fd) : FnG P w K mg base 1 f_Diagram_partners fd ["self"] (spI (GG gc) m_Diagram_partners) :=
  fn_ok (fun _ _ _ => True.intro) F sc_Diagram_partners fun cdv A outer s H E p cn => show SB (GG gc) p _ _ _ (b_Diagram_partners p) from
    (sb_one (ss_ret (se_fld (i := 0) Z.cc_4 nd_4 rfl (se_var 0))))
theorem sc_Diagram___eq__ : FnScope ["self", "other"] ["self", "other"] (defScope s_Diagram___eq__) := ⟨rfl, rfl, rfl, by decide +kernel, rfl, by decide +kernel, by decide +kernel⟩
theorem d_Diagram___eq__ {fd : FuncData} (T : TT mg T_MAX_COLUMNS) (M : MM mg f_Diagram_partners f_Diagram___eq__ f_is_integer f_is_columns f_check_columns f_border_walk f_has_crossing f_is_partners f_Diagram___init__ f_from_arcs f_generator f_identity f__law_caught f__law_generator f__law_pool f__law_take f_law) (Z : CF mg K gc f_Diagram_partners f_Diagram___eq__ f_is_integer f_is_columns f_check_columns f_border_walk f_has_crossing f_is_partners f_Diagram___init__ f_from_arcs f_generator f_identity f__law_caught f__law_generator f__law_pool f__law_take f_law) (F : Fun K "__eq__" "Diagram.__eq__" s_Diagram___eq__ f_Diagram___eq__ fd) (c_Diagram_partners : FC (GG gc) P w K mg base 1 f_Diagram_partners m_Diagram_partners []) : FnG P w K mg base 2 f_Diagram___eq__ fd ["self", "other"] (spI (GG gc) m_Diagram___eq__) :=
  fn_ok (fun _ _ _ => True.intro) F sc_Diagram___eq__ fun cdv A outer s H E p cn => show SB (GG gc) p _ _ _ (b_Diagram___eq__ p) from
    (sb_one (ss_ret (se_and (se_isiC Z.qi_4 T.n_isinstance Z.nm_Diagram (se_var 1)) (se_one (se_cmp (i_eq cn.u64) (se_fld (i := 0) Z.cc_4 nd_4 rfl (se_var 0)) (se_meth0 Z.cc_4 Z.me_4_partners nm_4_partners c_Diagram_partners cn (se_var 1)))))))
theorem sc_is_integer : FnScope ["value", "minimum"] ["value", "minimum"] (defScope s_is_integer) := ⟨rfl, rfl, rfl, by decide +kernel, rfl, by decide +kernel, by decide +kernel⟩
theorem d_is_integer {fd : FuncData} (T : TT mg T_MAX_COLUMNS) (M : MM mg f_Diagram_partners f_Diagram___eq__ f_is_integer f_is_columns f_check_columns f_border_walk f_has_crossing f_is_partners f_Diagram___init__ f_from_arcs f_generator f_identity f__law_caught f__law_generator f__law_pool f__law_take f_law) (Z : CF mg K gc f_Diagram_partners f_Diagram___eq__ f_is_integer f_is_columns f_check_columns f_border_walk f_has_crossing f_is_partners f_Diagram___init__ f_from_arcs f_generator f_identity f__law_caught f__law_generator f__law_pool f__law_take f_law) (F : FunD K "is_integer" "is_integer" (defArgs s_is_integer) (defBody s_is_integer) (defScope s_is_integer) [.int 0] [] f_is_integer fd) : FnG P w K mg base 1 f_is_integer fd ["value", "minimum"] (spI (GG gc) m_is_integer) :=
  fn_okD (fun _ _ _ => True.intro) F sc_is_integer fun cdv A outer s H E p cn => show SB (GG gc) p _ _ _ (b_is_integer p) from
    (sb_one (ss_ret (se_and (se_isiT q_int T.n_isinstance T.n_int (se_var 0)) (se_and (se_not (se_isiT q_bool T.n_isinstance T.n_bool (se_var 0))) (se_one (se_cmp i_ge (se_var 0) (se_var 1)))))))
theorem sc_is_columns : FnScope ["value"] ["value"] (defScope s_is_columns) := ⟨rfl, rfl, rfl, by decide +kernel, rfl, by decide +kernel, by decide +kernel⟩
theorem d_is_columns {fd : FuncData} (T : TT mg T_MAX_COLUMNS) (M : MM mg f_Diagram_partners f_Diagram___eq__ f_is_integer f_is_columns f_check_columns f_border_walk f_has_crossing f_is_partners f_Diagram___init__ f_from_arcs f_generator f_identity f__law_caught f__law_generator f__law_pool f__law_take f_law) (Z : CF mg K gc f_Diagram_partners f_Diagram___eq__ f_is_integer f_is_columns f_check_columns f_border_walk f_has_crossing f_is_partners f_Diagram___init__ f_from_arcs f_generator f_identity f__law_caught f__law_generator f__law_pool f__law_take f_law) (F : Fun K "is_columns" "is_columns" s_is_columns f_is_columns fd) (c_is_integer_0 : FC (GG gc) P w K mg base 1 f_is_integer m_is_integer []) : FnG P w K mg base 2 f_is_columns fd ["value"] (spI (GG gc) m_is_columns) :=
  fn_ok (fun _ _ _ => True.intro) F sc_is_columns fun cdv A outer s H E p cn => show SB (GG gc) p _ _ _ (b_is_columns p) from
    (sb_one (ss_ret (se_and (se_call c_is_integer_0 cn M.m_is_integer (sa_cons (se_var 0) (sa_cons se_int sa_nil))) (se_one (se_cmp i_le (se_var 0) (se_gint T.c_MAX_COLUMNS))))))
theorem sc_check_columns : FnScope ["columns"] ["columns"] (defScope s_check_columns) := ⟨rfl, rfl, rfl, by decide +kernel, rfl, by decide +kernel, by decide +kernel⟩
theorem d_check_columns {fd : FuncData} (T : TT mg T_MAX_COLUMNS) (M : MM mg f_Diagram_partners f_Diagram___eq__ f_is_integer f_is_columns f_check_columns f_border_walk f_has_crossing f_is_partners f_Diagram___init__ f_from_arcs f_generator f_identity f__law_caught f__law_generator f__law_pool f__law_take f_law) (Z : CF mg K gc f_Diagram_partners f_Diagram___eq__ f_is_integer f_is_columns f_check_columns f_border_walk f_has_crossing f_is_partners f_Diagram___init__ f_from_arcs f_generator f_identity f__law_caught f__law_generator f__law_pool f__law_take f_law) (F : Fun K "check_columns" "check_columns" s_check_columns f_check_columns fd) (c_is_columns : FC (GG gc) P w K mg base 2 f_is_columns m_is_columns []) (x_InvalidColumns : XC (GG gc) P w K mg base 2 "InvalidColumns" "value") : FnG P w K mg base 3 f_check_columns fd ["columns"] (spI (GG gc) m_check_columns) :=
  fn_ok (fun _ _ _ => True.intro) F sc_check_columns fun cdv A outer s H E p cn => show SB (GG gc) p _ _ _ (b_check_columns p) from
    (sb_one (ss_if (st_not (st_val (se_call c_is_columns cn M.m_is_columns (sa_cons (se_var 0) sa_nil)))) (sb_one (ss_raise x_InvalidColumns cn (by decide) (se_var 0))) sb_nil))
theorem sc_border_walk : FnScope ["columns"] ["columns"] (defScope s_border_walk) := ⟨rfl, rfl, rfl, by decide +kernel, rfl, by decide +kernel, by decide +kernel⟩
theorem d_border_walk {fd : FuncData} (T : TT mg T_MAX_COLUMNS) (M : MM mg f_Diagram_partners f_Diagram___eq__ f_is_integer f_is_columns f_check_columns f_border_walk f_has_crossing f_is_partners f_Diagram___init__ f_from_arcs f_generator f_identity f__law_caught f__law_generator f__law_pool f__law_take f_law) (Z : CF mg K gc f_Diagram_partners f_Diagram___eq__ f_is_integer f_is_columns f_check_columns f_border_walk f_has_crossing f_is_partners f_Diagram___init__ f_from_arcs f_generator f_identity f__law_caught f__law_generator f__law_pool f__law_take f_law) (F : Fun K "border_walk" "border_walk" s_border_walk f_border_walk fd) : FnG P w K mg base 1 f_border_walk fd ["columns"] (spI (GG gc) m_border_walk) :=
  fn_ok (fun _ _ _ => True.intro) F sc_border_walk fun cdv A outer s H E p cn => show SB (GG gc) p _ _ _ (b_border_walk p) from
    (sb_one (ss_ret (se_bin i_add (se_rgl cn.calm T.n_list (rc_1 T.n_range (se_var 0))) (se_rgl cn.calm T.n_list (rc_3 T.n_range (se_bin i_sub (se_bin i_mul se_int (se_var 0)) se_int) (se_bin i_sub (se_var 0) se_int) (se_un i_neg se_int))))))
theorem sc_has_crossing : FnScope ["partners", "pending", "seen", "point"] ["partners"] (defScope s_has_crossing) := ⟨rfl, rfl, rfl, by decide +kernel, rfl, by decide +kernel, by decide +kernel⟩
theorem d_has_crossing {fd : FuncData} (T : TT mg T_MAX_COLUMNS) (M : MM mg f_Diagram_partners f_Diagram___eq__ f_is_integer f_is_columns f_check_columns f_border_walk f_has_crossing f_is_partners f_Diagram___init__ f_from_arcs f_generator f_identity f__law_caught f__law_generator f__law_pool f__law_take f_law) (Z : CF mg K gc f_Diagram_partners f_Diagram___eq__ f_is_integer f_is_columns f_check_columns f_border_walk f_has_crossing f_is_partners f_Diagram___init__ f_from_arcs f_generator f_identity f__law_caught f__law_generator f__law_pool f__law_take f_law) (F : Fun K "has_crossing" "has_crossing" s_has_crossing f_has_crossing fd) (c_border_walk : FC (GG gc) P w K mg base 1 f_border_walk m_border_walk []) : FnG P w K mg base 2 f_has_crossing fd ["partners"] (spI (GG gc) m_has_crossing) :=
  fn_ok (fun _ _ _ => True.intro) F sc_has_crossing fun cdv A outer s H E p cn => show SB (GG gc) p _ _ _ (b_has_crossing p) from
    (sb_cons (ss_par2 1 2 cn.calm cn.nd (sa_cons (se_lst sa_nil) (sa_cons se_dct sa_nil)))
    (sb_cons (ss_for cn (si_seq (se_call c_border_walk cn M.m_border_walk (sa_cons (se_bin i_fdiv (se_b c_len T.n_len (sa_cons (se_var 0) sa_nil)) se_int) sa_nil))) (sg_nm 3 cn.nd) (sb_cons (ss_if (st_cmp (i_notInA cn.u65) (se_ix cn.u1 (se_var 0) (se_var 3)) (se_var 2)) (sb_one (ss_ex (se_bm PySem.F.plainAttrs_list PySem.F.slot_list_append PySem.F.type_list_append ty_lst m_append (se_var 1) (sa_cons (se_var 3) sa_nil)))) (sb_one (ss_if (st_cmp (i_ne cn.u64) (se_bm0 PySem.F.plainAttrs_list PySem.F.slot_list_pop PySem.F.type_list_pop ty_lst m_pop (se_var 1)) (se_ix cn.u1 (se_var 0) (se_var 3))) (sb_one (ss_ret se_bl)) sb_nil)))
    (sb_one (ss_asg se_bl (sg_sub (s_setx cn.u1) (se_var 2) (se_var 3))))))
    (sb_one (ss_ret se_bl))))
theorem sc_is_partners : FnScope ["value", "point", "index"] ["value"] (defScope s_is_partners) := ⟨rfl, rfl, rfl, by decide +kernel, rfl, by decide +kernel, by decide +kernel⟩
theorem d_is_partners {fd : FuncData} (T : TT mg T_MAX_COLUMNS) (M : MM mg f_Diagram_partners f_Diagram___eq__ f_is_integer f_is_columns f_check_columns f_border_walk f_has_crossing f_is_partners f_Diagram___init__ f_from_arcs f_generator f_identity f__law_caught f__law_generator f__law_pool f__law_take f_law) (Z : CF mg K gc f_Diagram_partners f_Diagram___eq__ f_is_integer f_is_columns f_check_columns f_border_walk f_has_crossing f_is_partners f_Diagram___init__ f_from_arcs f_generator f_identity f__law_caught f__law_generator f__law_pool f__law_take f_law) (F : Fun K "is_partners" "is_partners" s_is_partners f_is_partners fd) (c_Diagram___eq__ : FC (GG gc) P w K mg base 2 f_Diagram___eq__ m_Diagram___eq__ []) (c_has_crossing : FC (GG gc) P w K mg base 2 f_has_crossing m_has_crossing []) (c_is_columns : FC (GG gc) P w K mg base 2 f_is_columns m_is_columns []) (c_is_integer_1 : FC (GG gc) P w K mg base 2 f_is_integer m_is_integer [.int 0]) : FnG P w K mg base 3 f_is_partners fd ["value"] (spI (GG gc) m_is_partners) :=
  fn_ok (fun _ _ _ => True.intro) F sc_is_partners fun cdv A outer s H E p cn => show SB (GG gc) p _ _ _ (b_is_partners p) from
    (sb_cons (ss_if (st_w (sw_or (st_not (st_val (se_isiT q_tup T.n_isinstance T.n_tuple (se_var 0)))) (sw_or (st_cmp (i_eqO c_Diagram___eq__ cn Z.eq_4 Z.me_4___eq__.fn) (se_bin i_mod (se_b c_len T.n_len (sa_cons (se_var 0) sa_nil)) se_int) se_int) (sw_or1 (st_not (st_val (se_call c_is_columns cn M.m_is_columns (sa_cons (se_bin i_fdiv (se_b c_len T.n_len (sa_cons (se_var 0) sa_nil)) se_int) sa_nil)))))))) (sb_one (ss_ret se_bl)) sb_nil)
    (sb_cons (ss_if (st_not (st_val (se_b (c_all cn.calm) T.n_all (sa_cons (se_lc (own := [("point", 1)]) (ct := (CTg.nm 1)) cn (si_seq (se_var 0)) (blk_ok (by rfl)) rfl (by decide) (fun _ _ _ _ _ => ctg_1 cn.calm cn.nd) (fun _ _ _ _ _ cn => sts_nil) (fun _ _ _ _ _ cn => (se_and (se_call c_is_integer_1 cn M.m_is_integer (sa_cons (se_var 1) sa_nil)) (se_one (se_cmp (i_lt cn.u0) (se_var 1) (se_b c_len T.n_len (sa_cons (se_var 0) sa_nil))))))) sa_nil)))) (sb_one (ss_ret se_bl)) sb_nil)
    (sb_one (ss_ret (se_and (se_b (c_all cn.calm) T.n_all (sa_cons (se_lc (own := [("index", 2), ("point", 1)]) (ct := (CTg.pr 2 1)) cn (si_enum T.n_enumerate (se_var 0)) (blk_ok (by rfl)) rfl (by decide) (fun _ _ _ _ _ => ctg_2 cn.calm cn.nd) (fun _ _ _ _ _ cn => sts_nil) (fun _ _ _ _ _ cn => (se_chain (i_eq cn.u64) (i_ne cn.u64) (se_ix cn.u1 (se_var 0) (se_var 1)) (se_var 2) (se_var 1)))) sa_nil)) (se_one (se_not (se_call c_has_crossing cn M.m_has_crossing (sa_cons (se_var 0) sa_nil)))))))))
theorem sc_Diagram___init__ : FnScope ["self", "partners"] ["self", "partners"] (defScope s_Diagram___init__) := ⟨rfl, rfl, rfl, by decide +kernel, rfl, by decide +kernel, by decide +kernel⟩
theorem d_Diagram___init__ {fd : FuncData} (T : TT mg T_MAX_COLUMNS) (M : MM mg f_Diagram_partners f_Diagram___eq__ f_is_integer f_is_columns f_check_columns f_border_walk f_has_crossing f_is_partners f_Diagram___init__ f_from_arcs f_generator f_identity f__law_caught f__law_generator f__law_pool f__law_take f_law) (Z : CF mg K gc f_Diagram_partners f_Diagram___eq__ f_is_integer f_is_columns f_check_columns f_border_walk f_has_crossing f_is_partners f_Diagram___init__ f_from_arcs f_generator f_identity f__law_caught f__law_generator f__law_pool f__law_take f_law) (F : Fun K "__init__" "Diagram.__init__" s_Diagram___init__ f_Diagram___init__ fd) (c_is_partners : FC (GG gc) P w K mg base 3 f_is_partners m_is_partners []) (x_InvalidDiagram : XC (GG gc) P w K mg base 1 "InvalidDiagram" "value") : FnG P w K mg base 4 f_Diagram___init__ fd ["self", "partners"] (spI (GG gc) m_Diagram___init__) :=
  fn_ok (fun _ _ _ => True.intro) F sc_Diagram___init__ fun cdv A outer s H E p cn => show SB (GG gc) p _ _ _ (b_Diagram___init__ p) from
    (sb_cons (ss_if (st_not (st_val (se_call c_is_partners cn M.m_is_partners (sa_cons (se_var 1) sa_nil)))) (sb_one (ss_raise x_InvalidDiagram cn (by decide) (se_var 1))) sb_nil)
    (sb_cons (ss_fld (i := 0) Z.cc_4 nd_4 rfl (se_var 0) (se_var 1))
    (sb_one (ss_fld (i := 1) Z.cc_4 nd_4 rfl (se_var 0) (se_bin i_fdiv (se_b c_len T.n_len (sa_cons (se_var 1) sa_nil)) se_int)))))
theorem sc_from_arcs : FnScope ["columns", "arcs", "partners", "first", "second"] ["columns", "arcs"] (defScope s_from_arcs) := ⟨rfl, rfl, rfl, by decide +kernel, rfl, by decide +kernel, by decide +kernel⟩
theorem d_from_arcs {fd : FuncData} (T : TT mg T_MAX_COLUMNS) (M : MM mg f_Diagram_partners f_Diagram___eq__ f_is_integer f_is_columns f_check_columns f_border_walk f_has_crossing f_is_partners f_Diagram___init__ f_from_arcs f_generator f_identity f__law_caught f__law_generator f__law_pool f__law_take f_law) (Z : CF mg K gc f_Diagram_partners f_Diagram___eq__ f_is_integer f_is_columns f_check_columns f_border_walk f_has_crossing f_is_partners f_Diagram___init__ f_from_arcs f_generator f_identity f__law_caught f__law_generator f__law_pool f__law_take f_law) (F : Fun K "from_arcs" "from_arcs" s_from_arcs f_from_arcs fd) (i_Diagram___init__ : FC (GG gc) P w K mg base 4 f_Diagram___init__ m_Diagram___init__ []) : FnG P w K mg base 6 f_from_arcs fd ["columns", "arcs"] (spI (GG gc) m_from_arcs) :=
  fn_ok (fun _ _ _ => True.intro) F sc_from_arcs fun cdv A outer s H E p cn => show SB (GG gc) p _ _ _ (b_from_arcs p) from
    (sb_cons (ss_set 2 (se_bin i_mul (se_lst (sa_cons se_int sa_nil)) (se_bin i_mul se_int (se_var 0))) cn.nd)
    (sb_cons (ss_for cn (si_seq (se_var 1)) (sg_tup cn.calm (sgs_cons (sg_nm 3 cn.nd) (sgs_cons (sg_nm 4 cn.nd) sgs_nil))) (sb_one (ss_asg (se_tup (sa_cons (se_var 4) (sa_cons (se_var 3) sa_nil))) (sg_tup cn.calm (sgs_cons (sg_sub (s_setx cn.u1) (se_var 2) (se_var 3)) (sgs_cons (sg_sub (s_setx cn.u1) (se_var 2) (se_var 4)) sgs_nil))))))
    (sb_one (ss_ret (se_makeM Z.mk_4 i_Diagram___init__ cn Z.nm_Diagram (sa_cons (se_bt c_tuple T.n_tuple (sa_cons (se_var 2) sa_nil)) sa_nil))))))
theorem sc_generator : FnScope ["columns", "letter", "arcs", "column"] ["columns", "letter"] (defScope s_generator) := ⟨rfl, rfl, rfl, by decide +kernel, rfl, by decide +kernel, by decide +kernel⟩
theorem d_generator {fd : FuncData} (T : TT mg T_MAX_COLUMNS) (M : MM mg f_Diagram_partners f_Diagram___eq__ f_is_integer f_is_columns f_check_columns f_border_walk f_has_crossing f_is_partners f_Diagram___init__ f_from_arcs f_generator f_identity f__law_caught f__law_generator f__law_pool f__law_take f_law) (Z : CF mg K gc f_Diagram_partners f_Diagram___eq__ f_is_integer f_is_columns f_check_columns f_border_walk f_has_crossing f_is_partners f_Diagram___init__ f_from_arcs f_generator f_identity f__law_caught f__law_generator f__law_pool f__law_take f_law) (F : Fun K "generator" "generator" s_generator f_generator fd) (c_check_columns : FC (GG gc) P w K mg base 6 f_check_columns m_check_columns []) (c_from_arcs : FC (GG gc) P w K mg base 6 f_from_arcs m_from_arcs []) (c_is_integer_1 : FC (GG gc) P w K mg base 6 f_is_integer m_is_integer [.int 0]) (x_InvalidNumber : XC (GG gc) P w K mg base 3 "InvalidNumber" "value") : FnG P w K mg base 7 f_generator fd ["columns", "letter"] (spI (GG gc) m_generator) :=
  fn_ok (fun _ _ _ => True.intro) F sc_generator fun cdv A outer s H E p cn => show SB (GG gc) p _ _ _ (b_generator p) from
    (sb_cons (ss_ex (se_call c_check_columns cn M.m_check_columns (sa_cons (se_var 0) sa_nil)))
    (sb_cons (ss_if (st_w (sw_or (st_not (st_val (se_call c_is_integer_1 cn M.m_is_integer (sa_cons (se_var 1) sa_nil)))) (sw_or1 (st_cmp i_gt (se_var 1) (se_bin i_sub (se_var 0) se_int))))) (sb_one (ss_raise x_InvalidNumber cn (by decide) (se_var 1))) sb_nil)
    (sb_cons (ss_setLc 2 (own := [("column", 3)]) (ct := (CTg.nm 3)) cn (si_range1 T.n_range (se_var 0)) (blk_ok (by rfl)) rfl (by decide) (fun _ _ _ _ _ => ctg_1 cn.calm cn.nd) (fun _ _ _ _ _ cn => (sts_one (st_cmp (i_notInA cn.u65) (se_var 3) (se_tup (sa_cons (se_var 1) (sa_cons (se_bin i_add (se_var 1) se_int) sa_nil)))))) (fun _ _ _ _ _ cn => (se_tup (sa_cons (se_var 3) (sa_cons (se_bin i_add (se_var 0) (se_var 3)) sa_nil)))) rfl)
    (sb_one (ss_ret (se_call c_from_arcs cn M.m_from_arcs (sa_cons (se_var 0) (sa_cons (se_bin i_add (se_var 2) (se_lst (sa_cons (se_tup (sa_cons (se_var 1) (sa_cons (se_bin i_add (se_var 1) se_int) sa_nil))) (sa_cons (se_tup (sa_cons (se_bin i_add (se_var 0) (se_var 1)) (sa_cons (se_bin i_add (se_bin i_add (se_var 0) (se_var 1)) se_int) sa_nil))) sa_nil)))) sa_nil))))))))
theorem sc_identity : FnScope ["columns", "column"] ["columns"] (defScope s_identity) := ⟨rfl, rfl, rfl, by decide +kernel, rfl, by decide +kernel, by decide +kernel⟩
theorem d_identity {fd : FuncData} (T : TT mg T_MAX_COLUMNS) (M : MM mg f_Diagram_partners f_Diagram___eq__ f_is_integer f_is_columns f_check_columns f_border_walk f_has_crossing f_is_partners f_Diagram___init__ f_from_arcs f_generator f_identity f__law_caught f__law_generator f__law_pool f__law_take f_law) (Z : CF mg K gc f_Diagram_partners f_Diagram___eq__ f_is_integer f_is_columns f_check_columns f_border_walk f_has_crossing f_is_partners f_Diagram___init__ f_from_arcs f_generator f_identity f__law_caught f__law_generator f__law_pool f__law_take f_law) (F : Fun K "identity" "identity" s_identity f_identity fd) (c_check_columns : FC (GG gc) P w K mg base 6 f_check_columns m_check_columns []) (c_from_arcs : FC (GG gc) P w K mg base 6 f_from_arcs m_from_arcs []) : FnG P w K mg base 7 f_identity fd ["columns"] (spI (GG gc) m_identity) :=
  fn_ok (fun _ _ _ => True.intro) F sc_identity fun cdv A outer s H E p cn => show SB (GG gc) p _ _ _ (b_identity p) from
    (sb_cons (ss_ex (se_call c_check_columns cn M.m_check_columns (sa_cons (se_var 0) sa_nil)))
    (sb_one (ss_ret (se_call c_from_arcs cn M.m_from_arcs (sa_cons (se_var 0) (sa_cons (se_lc (own := [("column", 1)]) (ct := (CTg.nm 1)) cn (si_range1 T.n_range (se_var 0)) (blk_ok (by rfl)) rfl (by decide) (fun _ _ _ _ _ => ctg_1 cn.calm cn.nd) (fun _ _ _ _ _ cn => sts_nil) (fun _ _ _ _ _ cn => (se_tup (sa_cons (se_var 1) (sa_cons (se_bin i_add (se_var 0) (se_var 1)) sa_nil))))) sa_nil))))))
theorem sc__law_caught : FnScope ["_law_way", "_law_columns", "_law_letter", "e"] ["_law_way", "_law_columns", "_law_letter"] (defScope s__law_caught) := ⟨rfl, rfl, rfl, by decide +kernel, rfl, by decide +kernel, by decide +kernel⟩
theorem d__law_caught {fd : FuncData} (T : TT mg T_MAX_COLUMNS) (M : MM mg f_Diagram_partners f_Diagram___eq__ f_is_integer f_is_columns f_check_columns f_border_walk f_has_crossing f_is_partners f_Diagram___init__ f_from_arcs f_generator f_identity f__law_caught f__law_generator f__law_pool f__law_take f_law) (Z : CF mg K gc f_Diagram_partners f_Diagram___eq__ f_is_integer f_is_columns f_check_columns f_border_walk f_has_crossing f_is_partners f_Diagram___init__ f_from_arcs f_generator f_identity f__law_caught f__law_generator f__law_pool f__law_take f_law) (F : Fun K "_law_caught" "_law_caught" s__law_caught f__law_caught fd) (c_Diagram___eq__ : FC (GG gc) P w K mg base 7 f_Diagram___eq__ m_Diagram___eq__ []) (c_Diagram_partners : FC (GG gc) P w K mg base 7 f_Diagram_partners m_Diagram_partners []) (c_generator : FC (GG gc) P w K mg base 7 f_generator m_generator []) (c_identity : FC (GG gc) P w K mg base 7 f_identity m_identity []) : FnG P w K mg base 8 f__law_caught fd ["_law_way", "_law_columns", "_law_letter"] (spI (GG gc) m__law_caught) :=
  fn_ok (fun _ _ _ => True.intro) F sc__law_caught fun cdv A outer s H E p cn => show SB (GG gc) p _ _ _ (b__law_caught p) from
    (sb_one (ss_try (G := GG gc) rfl cn rfl rfl (fun W pn xe cn => (sb_one (ss_ret (se_lst (sa_cons se_str (sa_cons (se_if (st_cmp (i_eqO c_Diagram___eq__ cn Z.eq_4 Z.me_4___eq__.fn) (se_var 0) se_int) (se_meth0 Z.cc_4 Z.me_4_partners nm_4_partners c_Diagram_partners cn (se_call c_identity cn M.m_identity (sa_cons (se_var 1) sa_nil))) (se_meth0 Z.cc_4 Z.me_4_partners nm_4_partners c_Diagram_partners cn (se_call c_generator cn M.m_generator (sa_cons (se_var 1) (sa_cons (se_var 2) sa_nil))))) sa_nil)))))) (HS.named ⟨rfl, by decide, .inl Z.nm_InvalidColumns⟩ Z.ex_2_2 (no_cons Z.ex_1_2 (no_cons Z.ex_3_2 no_nil)) rfl (i := 3) rfl rfl (fun a oe d pn w hz hf cn => (sb_one (ss_ret (se_lst (sa_cons se_str (sa_cons (se_b (c_repr cn.gd cn.u64) T.n_repr (sa_cons (se_exf Z.xi_2 Z.xn_2 hz hf) sa_nil)) (sa_cons (se_exi (cV := .ref (gc 0)) Z.xe_2 Z.kt_2_0 (fun _ h => h) (pe_glob (v := .ref (gc 0)) (by rfl) Z.nm_DiagramError rfl) hz hf T.n_isinstance) sa_nil))))))) (HS.named ⟨rfl, by decide, .inl Z.nm_InvalidNumber⟩ Z.ex_3_3 (no_cons Z.ex_1_3 (no_cons Z.ex_2_3 no_nil)) rfl (i := 3) rfl rfl (fun a oe d pn w hz hf cn => (sb_one (ss_ret (se_lst (sa_cons se_str (sa_cons (se_b (c_repr cn.gd cn.u64) T.n_repr (sa_cons (se_exf Z.xi_3 Z.xn_3 hz hf) sa_nil)) (sa_cons (se_exi (cV := .ref (gc 0)) Z.xe_3 Z.kt_3_0 (fun _ h => h) (pe_glob (v := .ref (gc 0)) (by rfl) Z.nm_DiagramError rfl) hz hf T.n_isinstance) sa_nil))))))) HS.nil))))
theorem sc__law_generator : FnScope ["_law_columns", "_law_letter", "_law_found", "_law_at"] ["_law_columns", "_law_letter"] (defScope s__law_generator) := ⟨rfl, rfl, rfl, by decide +kernel, rfl, by decide +kernel, by decide +kernel⟩
theorem d__law_generator {fd : FuncData} (T : TT mg T_MAX_COLUMNS) (M : MM mg f_Diagram_partners f_Diagram___eq__ f_is_integer f_is_columns f_check_columns f_border_walk f_has_crossing f_is_partners f_Diagram___init__ f_from_arcs f_generator f_identity f__law_caught f__law_generator f__law_pool f__law_take f_law) (Z : CF mg K gc f_Diagram_partners f_Diagram___eq__ f_is_integer f_is_columns f_check_columns f_border_walk f_has_crossing f_is_partners f_Diagram___init__ f_from_arcs f_generator f_identity f__law_caught f__law_generator f__law_pool f__law_take f_law) (F : Fun K "_law_generator" "_law_generator" s__law_generator f__law_generator fd) : FnG P w K mg base 1 f__law_generator fd ["_law_columns", "_law_letter"] (spI (GG gc) m__law_generator) :=
  fn_ok (fun _ _ _ => True.intro) F sc__law_generator fun cdv A outer s H E p cn => show SB (GG gc) p _ _ _ (b__law_generator p) from
    (sb_cons (ss_set 2 (se_bin i_add (se_rgl cn.calm T.n_list (rc_2 T.n_range (se_var 0) (se_bin i_mul se_int (se_var 0)))) (se_rgl cn.calm T.n_list (rc_1 T.n_range (se_var 0)))) cn.nd)
    (sb_cons (ss_for cn (si_seq (se_lst (sa_cons (se_var 1) (sa_cons (se_bin i_add (se_var 0) (se_var 1)) sa_nil)))) (sg_nm 3 cn.nd) (sb_one (ss_asg (se_tup (sa_cons (se_bin i_add (se_var 3) se_int) (sa_cons (se_var 3) sa_nil))) (sg_tup cn.calm (sgs_cons (sg_sub (s_setx cn.u1) (se_var 2) (se_var 3)) (sgs_cons (sg_sub (s_setx cn.u1) (se_var 2) (se_bin i_add (se_var 3) se_int)) sgs_nil))))))
    (sb_one (ss_ret (se_bt c_tuple T.n_tuple (sa_cons (se_var 2) sa_nil))))))
theorem sc__law_pool : FnScope ["_law_script", "_law_k", "_law_cell", "_law_mixed"] ["_law_script", "_law_k"] (defScope s__law_pool) := ⟨rfl, rfl, rfl, by decide +kernel, rfl, by decide +kernel, by decide +kernel⟩
theorem d__law_pool {fd : FuncData} (T : TT mg T_MAX_COLUMNS) (M : MM mg f_Diagram_partners f_Diagram___eq__ f_is_integer f_is_columns f_check_columns f_border_walk f_has_crossing f_is_partners f_Diagram___init__ f_from_arcs f_generator f_identity f__law_caught f__law_generator f__law_pool f__law_take f_law) (Z : CF mg K gc f_Diagram_partners f_Diagram___eq__ f_is_integer f_is_columns f_check_columns f_border_walk f_has_crossing f_is_partners f_Diagram___init__ f_from_arcs f_generator f_identity f__law_caught f__law_generator f__law_pool f__law_take f_law) (F : Fun K "_law_pool" "_law_pool" s__law_pool f__law_pool fd) : FnG P w K mg base 1 f__law_pool fd ["_law_script", "_law_k"] (spI (GG gc) m__law_pool) :=
  fn_ok (fun _ _ _ => True.intro) F sc__law_pool fun cdv A outer s H E p cn => show SB (GG gc) p _ _ _ (b__law_pool p) from
    (sb_cons (ss_set 2 se_int cn.nd)
    (sb_cons (ss_if (st_cmp (i_lt cn.u0) (se_var 1) (se_b c_len T.n_len (sa_cons (se_var 0) sa_nil))) (sb_one (ss_set 2 (se_b c_abs T.n_abs (sa_cons (se_ix cn.u1 (se_var 0) (se_var 1)) sa_nil)) cn.nd)) sb_nil)
    (sb_cons (ss_set 3 (se_bin i_mod (se_bin i_mul (se_bin i_add (se_bin i_add (se_bin i_add (se_bin i_mod (se_var 2) se_int) (se_bin i_mul (se_bin i_mul se_int (se_var 1)) (se_var 1))) (se_bin i_mul se_int (se_var 1))) se_int) se_int) se_int) cn.nd)
    (sb_one (ss_ret (se_lst (sa_cons (se_bin i_mul (se_var 2) (se_bt c_int T.n_int (sa_cons (se_cmp i_ge (se_var 2) (se_bin i_pow se_int se_int)) sa_nil))) (sa_cons (se_bin i_mod (se_bin i_mul (se_var 3) (se_var 3)) se_int) sa_nil))))))))
theorem sc__law_take : FnScope ["_law_pool_here", "_law_many", "_law_found"] ["_law_pool_here", "_law_many"] (defScope s__law_take) := ⟨rfl, rfl, rfl, by decide +kernel, rfl, by decide +kernel, by decide +kernel⟩
theorem d__law_take {fd : FuncData} (T : TT mg T_MAX_COLUMNS) (M : MM mg f_Diagram_partners f_Diagram___eq__ f_is_integer f_is_columns f_check_columns f_border_walk f_has_crossing f_is_partners f_Diagram___init__ f_from_arcs f_generator f_identity f__law_caught f__law_generator f__law_pool f__law_take f_law) (Z : CF mg K gc f_Diagram_partners f_Diagram___eq__ f_is_integer f_is_columns f_check_columns f_border_walk f_has_crossing f_is_partners f_Diagram___init__ f_from_arcs f_generator f_identity f__law_caught f__law_generator f__law_pool f__law_take f_law) (F : Fun K "_law_take" "_law_take" s__law_take f__law_take fd) : FnG P w K mg base 1 f__law_take fd ["_law_pool_here", "_law_many"] (spI (GG gc) m__law_take) :=
  fn_ok (fun _ _ _ => True.intro) F sc__law_take fun cdv A outer s H E p cn => show SB (GG gc) p _ _ _ (b__law_take p) from
    (sb_cons (ss_if (st_cmp i_gt (se_ix cn.u1 (se_var 0) se_int) se_int) (sb_cons (ss_set 2 (se_bin i_mod (se_ix cn.u1 (se_var 0) se_int) (se_var 1)) cn.nd)
    (sb_cons (ss_asg (se_bin i_fdiv (se_ix cn.u1 (se_var 0) se_int) (se_var 1)) (sg_sub (s_setx cn.u1) (se_var 0) se_int))
    (sb_one (ss_ret (se_var 2))))) sb_nil)
    (sb_cons (ss_asg (se_bin i_mod (se_bin i_add (se_bin i_mul (se_ix cn.u1 (se_var 0) se_int) se_int) se_int) se_int) (sg_sub (s_setx cn.u1) (se_var 0) se_int))
    (sb_one (ss_ret (se_bin i_mod (se_bin i_fdiv (se_bin i_mod (se_bin i_mul (se_ix cn.u1 (se_var 0) se_int) (se_ix cn.u1 (se_var 0) se_int)) se_int) se_int) (se_var 1))))))
theorem sc_law : FnScope ["_law_script", "_law_k", "_law_pool_here", "_law_columns", "_law_straight", "_law_letter", "_law_none", "_law_way"] ["_law_script"] (defScope s_law) := ⟨rfl, rfl, rfl, by decide +kernel, rfl, by decide +kernel, by decide +kernel⟩
theorem d_law {fd : FuncData} (T : TT mg T_MAX_COLUMNS) (M : MM mg f_Diagram_partners f_Diagram___eq__ f_is_integer f_is_columns f_check_columns f_border_walk f_has_crossing f_is_partners f_Diagram___init__ f_from_arcs f_generator f_identity f__law_caught f__law_generator f__law_pool f__law_take f_law) (Z : CF mg K gc f_Diagram_partners f_Diagram___eq__ f_is_integer f_is_columns f_check_columns f_border_walk f_has_crossing f_is_partners f_Diagram___init__ f_from_arcs f_generator f_identity f__law_caught f__law_generator f__law_pool f__law_take f_law) (F : Fun K "law" "law" s_law f_law fd) (c_Diagram___eq__ : FC (GG gc) P w K mg base 8 f_Diagram___eq__ m_Diagram___eq__ []) (c_Diagram_partners : FC (GG gc) P w K mg base 8 f_Diagram_partners m_Diagram_partners []) (c__law_caught : FC (GG gc) P w K mg base 8 f__law_caught m__law_caught []) (c__law_generator : FC (GG gc) P w K mg base 8 f__law_generator m__law_generator []) (c__law_pool : FC (GG gc) P w K mg base 8 f__law_pool m__law_pool []) (c__law_take : FC (GG gc) P w K mg base 8 f__law_take m__law_take []) (c_generator : FC (GG gc) P w K mg base 8 f_generator m_generator []) : FnG P w K mg base 9 f_law fd ["_law_script"] (spI (GG gc) m_law) :=
  fn_ok (fun _ _ _ => True.intro) F sc_law fun cdv A outer s H E p cn => show SB (GG gc) p _ _ _ (b_law p) from
    (sb_cons (ss_for cn (si_range1 T.n_range (se_b (c_max2 cn.calm) T.n_max (sa_cons se_int (sa_cons (se_b (c_min2 cn.calm) T.n_min (sa_cons se_int (sa_cons (se_b c_len T.n_len (sa_cons (se_var 0) sa_nil)) sa_nil))) sa_nil)))) (sg_nm 1 cn.nd) (sb_frame [0, 1] (fun _ _ _ => True.intro) fun p => show SB (GG gc) p _ _ _ (b_law_7 p) from (sb_cons (ss_set 2 (se_call c__law_pool cn M.m__law_pool (sa_cons (se_var 0) (sa_cons (se_var 1) sa_nil))) cn.nd)
    (sb_cons (ss_set 3 (se_bin i_add se_int (se_call c__law_take cn M.m__law_take (sa_cons (se_var 2) (sa_cons se_int sa_nil)))) cn.nd)
    (sb_frame [0, 3] (fun _ _ _ => True.intro) fun p => show SB (GG gc) p _ _ _ (b_law_6 p) from (sb_cons (ss_set 4 (se_bt c_tuple T.n_tuple (sa_cons (se_bin i_add (se_rgl cn.calm T.n_list (rc_2 T.n_range (se_var 3) (se_bin i_mul se_int (se_var 3)))) (se_rgl cn.calm T.n_list (rc_1 T.n_range (se_var 3)))) sa_nil)) cn.nd)
    (sb_cons (ss_if (st_cmp (i_ne cn.u64) (se_call c__law_caught cn M.m__law_caught (sa_cons se_int (sa_cons (se_var 3) (sa_cons se_non sa_nil)))) (se_lst (sa_cons se_str (sa_cons (se_var 4) sa_nil)))) (sb_one (ss_ret se_bl)) sb_nil)
    (sb_cons (ss_for cn (si_range1 T.n_range (se_bin i_sub (se_var 3) se_int)) (sg_nm 5 cn.nd) (sb_frame [0, 3, 5] (fun _ _ _ => True.intro) fun p => show SB (GG gc) p _ _ _ (b_law_1 p) from (sb_one (ss_if (st_cmp (i_ne cn.u64) (se_call c__law_caught cn M.m__law_caught (sa_cons se_int (sa_cons (se_var 3) (sa_cons (se_var 5) sa_nil)))) (se_lst (sa_cons se_str (sa_cons (se_call c__law_generator cn M.m__law_generator (sa_cons (se_var 3) (sa_cons (se_var 5) sa_nil))) sa_nil)))) (sb_one (ss_ret se_bl)) sb_nil))))
    (sb_frame [0, 3] (fun _ _ _ => True.intro) fun p => show SB (GG gc) p _ _ _ (b_law_5 p) from (sb_cons (ss_for cn (si_seq (se_lst (sa_cons (se_un i_neg se_int) (sa_cons (se_bin i_sub (se_var 3) se_int) (sa_cons (se_var 3) (sa_cons se_bl (sa_cons se_bl (sa_cons se_non (sa_cons se_str (sa_cons (se_lst (sa_cons se_int sa_nil)) (sa_cons (se_bin i_pow se_int se_int) sa_nil))))))))))) (sg_nm 5 cn.nd) (sb_frame [0, 3, 5] (fun _ _ _ => True.intro) fun p => show SB (GG gc) p _ _ _ (b_law_2 p) from (sb_one (ss_if (st_cmp (i_ne cn.u64) (se_call c__law_caught cn M.m__law_caught (sa_cons se_int (sa_cons (se_var 3) (sa_cons (se_var 5) sa_nil)))) (se_lst (sa_cons se_str (sa_cons (se_b (c_repr cn.gd cn.u64) T.n_repr (sa_cons (se_var 5) sa_nil)) (sa_cons se_bl sa_nil))))) (sb_one (ss_ret se_bl)) sb_nil))))
    (sb_frame [0] (fun _ _ _ => True.intro) fun p => show SB (GG gc) p _ _ _ (b_law_4 p) from (sb_one (ss_for cn (si_seq (se_lst (sa_cons se_int (sa_cons se_int (sa_cons (se_un i_neg se_int) (sa_cons se_bl (sa_cons se_non (sa_cons se_str (sa_cons (se_lst (sa_cons se_int sa_nil)) (sa_cons se_dct (sa_cons (se_bin i_pow se_int se_int) sa_nil))))))))))) (sg_nm 6 cn.nd) (sb_frame [0, 6] (fun _ _ _ => True.intro) fun p => show SB (GG gc) p _ _ _ (b_law_3 p) from (sb_one (ss_if (st_cmp (i_ne cn.u64) (se_lc (own := [("_law_way", 7)]) (ct := (CTg.nm 7)) cn (si_range1 T.n_range se_int) (blk_ok (by rfl)) rfl (by decide) (fun _ _ _ _ _ => ctg_1 cn.calm cn.nd) (fun _ _ _ _ _ cn => sts_nil) (fun _ _ _ _ _ cn => (se_call c__law_caught cn M.m__law_caught (sa_cons (se_var 7) (sa_cons (se_var 6) (sa_cons se_non sa_nil)))))) (se_bin i_mul (se_lst (sa_cons (se_lst (sa_cons se_str (sa_cons (se_b (c_repr cn.gd cn.u64) T.n_repr (sa_cons (se_var 6) sa_nil)) (sa_cons se_bl sa_nil)))) sa_nil)) se_int)) (sb_one (ss_ret se_bl)) sb_nil))))))))))))))))
    (sb_frame [] (fun _ _ _ => True.intro) fun p => show SB (GG gc) p _ _ _ (b_law_8 p) from (sb_one (ss_ret (se_cmp (i_eqO c_Diagram___eq__ cn Z.eq_4 Z.me_4___eq__.fn) (se_meth0 Z.cc_4 Z.me_4_partners nm_4_partners c_Diagram_partners cn (se_call c_generator cn M.m_generator (sa_cons se_int (sa_cons se_int sa_nil)))) (se_tup (sa_cons se_int (sa_cons se_int (sa_cons se_int (sa_cons se_int sa_nil))))))))))
end
/-! ### behind the top -/
theorem all_mk {P : Program} {w : World} {K : PySem.W.Frag} {h : Heap} {mg : Str → Option Value} {fa : Addr} {T_MAX_COLUMNS : Tok} {A_0 : Addr} {A_1 : Addr} {A_2 : Addr} {A_3 : Addr} {A_4 : Addr} {I_2 : Addr} {I_1 : Addr} {I_3 : Addr} {f_Diagram_partners : Addr} {f_Diagram___eq__ : Addr} {f_is_integer : Addr} {f_is_columns : Addr} {f_check_columns : Addr} {f_border_walk : Addr} {f_has_crossing : Addr} {f_is_partners : Addr} {f_Diagram___init__ : Addr} {f_from_arcs : Addr} {f_generator : Addr} {f_identity : Addr} {f__law_caught : Addr} {f__law_generator : Addr} {f__law_pool : Addr} {f__law_take : Addr} {f_law : Addr} (X : K.In h) (NG : h.Ns mainGlobals mg) (hfa : mg "law" = some (.ref fa))
    (n_abs : PySem.W.nsIn K mainGlobals "abs" = some none)
    (n_all : PySem.W.nsIn K mainGlobals "all" = some none)
    (n_bool : PySem.W.nsIn K mainGlobals "bool" = some none)
    (n_enumerate : PySem.W.nsIn K mainGlobals "enumerate" = some none)
    (n_int : PySem.W.nsIn K mainGlobals "int" = some none)
    (n_isinstance : PySem.W.nsIn K mainGlobals "isinstance" = some none)
    (n_len : PySem.W.nsIn K mainGlobals "len" = some none)
    (n_list : PySem.W.nsIn K mainGlobals "list" = some none)
    (n_max : PySem.W.nsIn K mainGlobals "max" = some none)
    (n_min : PySem.W.nsIn K mainGlobals "min" = some none)
    (n_range : PySem.W.nsIn K mainGlobals "range" = some none)
    (n_repr : PySem.W.nsIn K mainGlobals "repr" = some none)
    (n_tuple : PySem.W.nsIn K mainGlobals "tuple" = some none)
    (c_MAX_COLUMNS : PySem.W.nsIn K mainGlobals "MAX_COLUMNS" = some (some (.int 16 T_MAX_COLUMNS)))
    (C_0 : PySem.W.nsIn K mainGlobals "DiagramError" = some (some (.ref A_0)))
    (C_1 : PySem.W.nsIn K mainGlobals "InvalidDiagram" = some (some (.ref A_1)))
    (C_2 : PySem.W.nsIn K mainGlobals "InvalidColumns" = some (some (.ref A_2)))
    (C_3 : PySem.W.nsIn K mainGlobals "InvalidNumber" = some (some (.ref A_3)))
    (C_4 : PySem.W.nsIn K mainGlobals "Diagram" = some (some (.ref A_4)))
    (a_Diagram_partners : PySem.W.findIn K (.ref A_4) "partners" = some (some (.ref f_Diagram_partners)))
    (k_Diagram_partners : KD K "partners" "Diagram.partners" s_Diagram_partners f_Diagram_partners)
    (a_Diagram___eq__ : PySem.W.findIn K (.ref A_4) "__eq__" = some (some (.ref f_Diagram___eq__)))
    (k_Diagram___eq__ : KD K "__eq__" "Diagram.__eq__" s_Diagram___eq__ f_Diagram___eq__)
    (a_is_integer : PySem.W.nsIn K mainGlobals "is_integer" = some (some (.ref f_is_integer)))
    (k_is_integer : KDD K "is_integer" "is_integer" s_is_integer [.int 0] f_is_integer)
    (a_is_columns : PySem.W.nsIn K mainGlobals "is_columns" = some (some (.ref f_is_columns)))
    (k_is_columns : KD K "is_columns" "is_columns" s_is_columns f_is_columns)
    (a_check_columns : PySem.W.nsIn K mainGlobals "check_columns" = some (some (.ref f_check_columns)))
    (k_check_columns : KD K "check_columns" "check_columns" s_check_columns f_check_columns)
    (a_border_walk : PySem.W.nsIn K mainGlobals "border_walk" = some (some (.ref f_border_walk)))
    (k_border_walk : KD K "border_walk" "border_walk" s_border_walk f_border_walk)
    (a_has_crossing : PySem.W.nsIn K mainGlobals "has_crossing" = some (some (.ref f_has_crossing)))
    (k_has_crossing : KD K "has_crossing" "has_crossing" s_has_crossing f_has_crossing)
    (a_is_partners : PySem.W.nsIn K mainGlobals "is_partners" = some (some (.ref f_is_partners)))
    (k_is_partners : KD K "is_partners" "is_partners" s_is_partners f_is_partners)
    (a_Diagram___init__ : PySem.W.findIn K (.ref A_4) "__init__" = some (some (.ref f_Diagram___init__)))
    (k_Diagram___init__ : KD K "__init__" "Diagram.__init__" s_Diagram___init__ f_Diagram___init__)
    (a_from_arcs : PySem.W.nsIn K mainGlobals "from_arcs" = some (some (.ref f_from_arcs)))
    (k_from_arcs : KD K "from_arcs" "from_arcs" s_from_arcs f_from_arcs)
    (a_generator : PySem.W.nsIn K mainGlobals "generator" = some (some (.ref f_generator)))
    (k_generator : KD K "generator" "generator" s_generator f_generator)
    (a_identity : PySem.W.nsIn K mainGlobals "identity" = some (some (.ref f_identity)))
    (k_identity : KD K "identity" "identity" s_identity f_identity)
    (a__law_caught : PySem.W.nsIn K mainGlobals "_law_caught" = some (some (.ref f__law_caught)))
    (k__law_caught : KD K "_law_caught" "_law_caught" s__law_caught f__law_caught)
    (a__law_generator : PySem.W.nsIn K mainGlobals "_law_generator" = some (some (.ref f__law_generator)))
    (k__law_generator : KD K "_law_generator" "_law_generator" s__law_generator f__law_generator)
    (a__law_pool : PySem.W.nsIn K mainGlobals "_law_pool" = some (some (.ref f__law_pool)))
    (k__law_pool : KD K "_law_pool" "_law_pool" s__law_pool f__law_pool)
    (a__law_take : PySem.W.nsIn K mainGlobals "_law_take" = some (some (.ref f__law_take)))
    (k__law_take : KD K "_law_take" "_law_take" s__law_take f__law_take)
    (a_law : PySem.W.nsIn K mainGlobals "law" = some (some (.ref f_law)))
    (k_law : KD K "law" "law" s_law f_law)
    (o_2 : OexC K A_2)
    (i_2 : PySem.W.findIn K (.ref A_2) "__init__" = some (some (.ref I_2)))
    (t_2 : PySem.W.typeIn K (.ref I_2) = some (.type "function"))
    (x_2 : KD K "__init__" "InvalidColumns.__init__" (inClass (top 4) 0) I_2)
    (nf_2 : PySem.W.findIn K (.ref A_2) "value" = some none)
    (o_1 : OexC K A_1)
    (i_1 : PySem.W.findIn K (.ref A_1) "__init__" = some (some (.ref I_1)))
    (t_1 : PySem.W.typeIn K (.ref I_1) = some (.type "function"))
    (x_1 : KD K "__init__" "InvalidDiagram.__init__" (inClass (top 3) 0) I_1)
    (nf_1 : PySem.W.findIn K (.ref A_1) "value" = some none)
    (o_3 : OexC K A_3)
    (i_3 : PySem.W.findIn K (.ref A_3) "__init__" = some (some (.ref I_3)))
    (t_3 : PySem.W.typeIn K (.ref I_3) = some (.type "function"))
    (x_3 : KD K "__init__" "InvalidNumber.__init__" (inClass (top 5) 0) I_3)
    (nf_3 : PySem.W.findIn K (.ref A_3) "value" = some none)
    (r_0 : ClX.CRead K A_0 (.type "type"))
    (q_0 : PySem.W.findCls K (.ref A_0) (.type "type") "__init__" = some (.val (.builtin "ValueError.__init__")))
    (mf_Diagram_partners : PySem.W.isFn K (.ref f_Diagram_partners) = true)
    (mp_Diagram_partners : PySem.W.keepIn K (.ref f_Diagram_partners) = true)
    (cl_4 : Cls K A_4)
    (na_4_0 : PySem.W.findIn K (.ref A_4) "ends" = some none)
    (na_4_1 : PySem.W.findIn K (.ref A_4) "width" = some none)
    (mf_Diagram___eq__ : PySem.W.isFn K (.ref f_Diagram___eq__) = true)
    (mp_Diagram___eq__ : PySem.W.keepIn K (.ref f_Diagram___eq__) = true)
    (kq_4_NoneType : PySem.W.kitOne K (.type "NoneType") (.ref A_4) = some false)
    (kq_4_bool : PySem.W.kitOne K (.type "bool") (.ref A_4) = some false)
    (kq_4_int : PySem.W.kitOne K (.type "int") (.ref A_4) = some false)
    (kq_4_str : PySem.W.kitOne K (.type "str") (.ref A_4) = some false)
    (kq_4_list : PySem.W.kitOne K (.type "list") (.ref A_4) = some false)
    (kq_4_tuple : PySem.W.kitOne K (.type "tuple") (.ref A_4) = some false)
    (kq_4_dict : PySem.W.kitOne K (.type "dict") (.ref A_4) = some false)
    (kq_4 : PySem.W.kitOne K (.ref A_4) (.ref A_4) = some true)
    (ci_4 : Cls K A_4)
    (ciha_4 : PySem.W.findIn K (.ref A_4) "__class__" = some (some (.builtin "object.__class__")))
    (cihn_4 : PySem.W.specialIn K (.builtin "object.__class__") "__get__" = some (some (.builtin "getset_descriptor.__get__")))
    (ciht_4 : PySem.W.takesIn K (.builtin "object.__class__") = some true)
    (cihm_4 : PySem.W.mroIn K A_4 (.type "object") = some true)
    (ie_3 : XfC K A_3 ∧ ExcC K A_3)
    (h_kt_3_0 : PySem.W.kitOne K (.ref A_3) (.ref A_0) = some true)
    (h_ex_3_3 : PySem.W.exmOne K (.ref A_3) (.ref A_3) = some true)
    (h_ex_2_3 : PySem.W.exmOne K (.ref A_2) (.ref A_3) = some false)
    (h_ex_1_3 : PySem.W.exmOne K (.ref A_1) (.ref A_3) = some false)
    (ie_2 : XfC K A_2 ∧ ExcC K A_2)
    (h_kt_2_0 : PySem.W.kitOne K (.ref A_2) (.ref A_0) = some true)
    (h_ex_2_2 : PySem.W.exmOne K (.ref A_2) (.ref A_2) = some true)
    (h_ex_3_2 : PySem.W.exmOne K (.ref A_3) (.ref A_2) = some false)
    (h_ex_1_2 : PySem.W.exmOne K (.ref A_1) (.ref A_2) = some false)
    (mm_4 : PySem.W.makesIn K A_4 = true)
    (mi_4 : PySem.W.isFn K (.ref f_Diagram___init__) = true)
    (mq_4 : PySem.W.keepIn K (.ref A_4) = true)
    : ∃ G, FLaw G P w K mg 9 fa "_law_script" m_law := by
  have e : f_law = fa := by
    have e := hfa.symm.trans (PySem.W.mg_of X NG a_law)
    cases e
    rfl
  subst e
  obtain ⟨gc, egc⟩ : ∃ gc, gc = gcOf [A_0, A_1, A_2, A_3, A_4] := ⟨_, rfl⟩
  have T : TT mg T_MAX_COLUMNS := ⟨PySem.W.mg_none_of X NG n_abs, PySem.W.mg_none_of X NG n_all, PySem.W.mg_none_of X NG n_bool, PySem.W.mg_none_of X NG n_enumerate, PySem.W.mg_none_of X NG n_int, PySem.W.mg_none_of X NG n_isinstance, PySem.W.mg_none_of X NG n_len, PySem.W.mg_none_of X NG n_list, PySem.W.mg_none_of X NG n_max, PySem.W.mg_none_of X NG n_min, PySem.W.mg_none_of X NG n_range, PySem.W.mg_none_of X NG n_repr, PySem.W.mg_none_of X NG n_tuple, PySem.W.mg_of X NG c_MAX_COLUMNS⟩
  have M : MM mg f_Diagram_partners f_Diagram___eq__ f_is_integer f_is_columns f_check_columns f_border_walk f_has_crossing f_is_partners f_Diagram___init__ f_from_arcs f_generator f_identity f__law_caught f__law_generator f__law_pool f__law_take f_law := ⟨PySem.W.mg_of X NG a_is_integer, PySem.W.mg_of X NG a_is_columns, PySem.W.mg_of X NG a_check_columns, PySem.W.mg_of X NG a_border_walk, PySem.W.mg_of X NG a_has_crossing, PySem.W.mg_of X NG a_is_partners, PySem.W.mg_of X NG a_from_arcs, PySem.W.mg_of X NG a_generator, PySem.W.mg_of X NG a_identity, PySem.W.mg_of X NG a__law_caught, PySem.W.mg_of X NG a__law_generator, PySem.W.mg_of X NG a__law_pool, PySem.W.mg_of X NG a__law_take, PySem.W.mg_of X NG a_law⟩
  have Z : CF mg K gc f_Diagram_partners f_Diagram___eq__ f_is_integer f_is_columns f_check_columns f_border_walk f_has_crossing f_is_partners f_Diagram___init__ f_from_arcs f_generator f_identity f__law_caught f__law_generator f__law_pool f__law_take f_law := by
    subst egc
    refine ⟨?_, ?_, ?_, ?_, ?_, ?_, ?_, ?_, ?_, ?_, ?_, ?_, ?_, ?_, ?_, ?_, ?_, ?_, ?_, ?_, ?_, ?_, ?_, ?_⟩
    · exact ⟨a_Diagram_partners, mf_Diagram_partners, mp_Diagram_partners⟩
    · exact ⟨cl_4, fun f h => by
      simp only [GE.of, fldG, List.mem_cons, List.not_mem_nil, or_false] at h
      rcases h with h | h
      · subst h; exact na_4_0
      · subst h; exact na_4_1⟩
    · exact a_Diagram___eq__
    · exact ⟨a_Diagram___eq__, mf_Diagram___eq__, mp_Diagram___eq__⟩
    · exact qi_own kq_4_NoneType kq_4_bool kq_4_int kq_4_str kq_4_list kq_4_tuple kq_4_dict fun c b h => by
        obtain ⟨rfl, rfl⟩ := lk_one h
        exact ⟨⟨ci_4, ciha_4, cihn_4, ciht_4, cihm_4⟩, kq_4⟩
    · exact PySem.W.mg_of X NG C_4
    · exact ie_3.2
    · exact h_kt_3_0
    · exact PySem.W.mg_of X NG C_0
    · exact ie_3.1
    · exact nf_3
    · exact h_ex_3_3
    · exact h_ex_2_3
    · exact h_ex_1_3
    · exact PySem.W.mg_of X NG C_3
    · exact ie_2.2
    · exact h_kt_2_0
    · exact ie_2.1
    · exact nf_2
    · exact h_ex_2_2
    · exact h_ex_3_2
    · exact h_ex_1_2
    · exact PySem.W.mg_of X NG C_2
    · exact ⟨mm_4, a_Diagram___init__, mi_4, mq_4⟩
  obtain ⟨fd_Diagram_partners, F_Diagram_partners⟩ := k_Diagram_partners
  obtain ⟨fd_Diagram___eq__, F_Diagram___eq__⟩ := k_Diagram___eq__
  obtain ⟨fd_is_integer, F_is_integer⟩ := k_is_integer
  obtain ⟨fd_is_columns, F_is_columns⟩ := k_is_columns
  obtain ⟨fd_check_columns, F_check_columns⟩ := k_check_columns
  obtain ⟨fd_border_walk, F_border_walk⟩ := k_border_walk
  obtain ⟨fd_has_crossing, F_has_crossing⟩ := k_has_crossing
  obtain ⟨fd_is_partners, F_is_partners⟩ := k_is_partners
  obtain ⟨fd_Diagram___init__, F_Diagram___init__⟩ := k_Diagram___init__
  obtain ⟨fd_from_arcs, F_from_arcs⟩ := k_from_arcs
  obtain ⟨fd_generator, F_generator⟩ := k_generator
  obtain ⟨fd_identity, F_identity⟩ := k_identity
  obtain ⟨fd__law_caught, F__law_caught⟩ := k__law_caught
  obtain ⟨fd__law_generator, F__law_generator⟩ := k__law_generator
  obtain ⟨fd__law_pool, F__law_pool⟩ := k__law_pool
  obtain ⟨fd__law_take, F__law_take⟩ := k__law_take
  obtain ⟨fd_law, F_law⟩ := k_law
  obtain ⟨fx_2, FX_2⟩ := x_2
  obtain ⟨fx_1, FX_1⟩ := x_1
  obtain ⟨fx_3, FX_3⟩ := x_3
  have q_Diagram_partners : Binds K fd_Diagram_partners ["self"] [] := F_Diagram_partners.binds fun _ _ _ _ _ _ us hl => match us, hl with | [_], _ => rfl
  have q_Diagram___eq__ : Binds K fd_Diagram___eq__ ["self", "other"] [] := F_Diagram___eq__.binds fun _ _ _ _ _ _ us hl => match us, hl with | [_, _], _ => rfl
  have q_is_columns : Binds K fd_is_columns ["value"] [] := F_is_columns.binds fun _ _ _ _ _ _ us hl => match us, hl with | [_], _ => rfl
  have q_check_columns : Binds K fd_check_columns ["columns"] [] := F_check_columns.binds fun _ _ _ _ _ _ us hl => match us, hl with | [_], _ => rfl
  have q_border_walk : Binds K fd_border_walk ["columns"] [] := F_border_walk.binds fun _ _ _ _ _ _ us hl => match us, hl with | [_], _ => rfl
  have q_has_crossing : Binds K fd_has_crossing ["partners"] [] := F_has_crossing.binds fun _ _ _ _ _ _ us hl => match us, hl with | [_], _ => rfl
  have q_is_partners : Binds K fd_is_partners ["value"] [] := F_is_partners.binds fun _ _ _ _ _ _ us hl => match us, hl with | [_], _ => rfl
  have q_Diagram___init__ : Binds K fd_Diagram___init__ ["self", "partners"] [] := F_Diagram___init__.binds fun _ _ _ _ _ _ us hl => match us, hl with | [_, _], _ => rfl
  have q_from_arcs : Binds K fd_from_arcs ["columns", "arcs"] [] := F_from_arcs.binds fun _ _ _ _ _ _ us hl => match us, hl with | [_, _], _ => rfl
  have q_generator : Binds K fd_generator ["columns", "letter"] [] := F_generator.binds fun _ _ _ _ _ _ us hl => match us, hl with | [_, _], _ => rfl
  have q_identity : Binds K fd_identity ["columns"] [] := F_identity.binds fun _ _ _ _ _ _ us hl => match us, hl with | [_], _ => rfl
  have q__law_caught : Binds K fd__law_caught ["_law_way", "_law_columns", "_law_letter"] [] := F__law_caught.binds fun _ _ _ _ _ _ us hl => match us, hl with | [_, _, _], _ => rfl
  have q__law_generator : Binds K fd__law_generator ["_law_columns", "_law_letter"] [] := F__law_generator.binds fun _ _ _ _ _ _ us hl => match us, hl with | [_, _], _ => rfl
  have q__law_pool : Binds K fd__law_pool ["_law_script", "_law_k"] [] := F__law_pool.binds fun _ _ _ _ _ _ us hl => match us, hl with | [_, _], _ => rfl
  have q__law_take : Binds K fd__law_take ["_law_pool_here", "_law_many"] [] := F__law_take.binds fun _ _ _ _ _ _ us hl => match us, hl with | [_, _], _ => rfl
  have q_law : Binds K fd_law ["_law_script"] [] := F_law.binds fun _ _ _ _ _ _ us hl => match us, hl with | [_], _ => rfl
  have qx_2 : Binds K fx_2 ["self", "value"] [] := FX_2.binds fun _ _ _ _ _ _ us hl => match us, hl with | [_, _], _ => rfl
  have qx_1 : Binds K fx_1 ["self", "value"] [] := FX_1.binds fun _ _ _ _ _ _ us hl => match us, hl with | [_, _], _ => rfl
  have qx_3 : Binds K fx_3 ["self", "value"] [] := FX_3.binds fun _ _ _ _ _ _ us hl => match us, hl with | [_, _], _ => rfl
  refine ⟨GG gc, fd_law, ?_, fun base KB NB => ?_⟩
  · obtain ⟨_, _, _, _, _, _, _, _, _, rfl, _, _⟩ := F_law.ex
    exact fun s v => .of_eq rfl
  have e_InvalidColumns : XC (GG gc) P w K mg base 2 "InvalidColumns" "value" := by
    subst egc
    exact xc_mk o_2 rfl (PySem.W.mg_of X NG C_2) i_2 t_2 (x_InvalidColumns FX_2 o_2 nf_2 (PySem.W.mg_of X NG C_0) r_0 q_0) qx_2
  have e_InvalidDiagram : XC (GG gc) P w K mg base 1 "InvalidDiagram" "value" := by
    subst egc
    exact xc_mk o_1 rfl (PySem.W.mg_of X NG C_1) i_1 t_1 (x_InvalidDiagram FX_1 o_1 nf_1 (PySem.W.mg_of X NG C_0) r_0 q_0) qx_1
  have e_InvalidNumber : XC (GG gc) P w K mg base 3 "InvalidNumber" "value" := by
    subst egc
    exact xc_mk o_3 rfl (PySem.W.mg_of X NG C_3) i_3 t_3 (x_InvalidNumber FX_3 o_3 nf_3 (PySem.W.mg_of X NG C_0) r_0 q_0) qx_3
  have g_Diagram_partners := d_Diagram_partners (P := P) (w := w) (base := base) T M Z F_Diagram_partners
  have e_Diagram_partners := fc_mk F_Diagram_partners g_Diagram_partners q_Diagram_partners
  have g_Diagram___eq__ := d_Diagram___eq__ (P := P) (w := w) (base := base) T M Z F_Diagram___eq__ (e_Diagram_partners.mono (by decide))
  have e_Diagram___eq__ := fc_mk F_Diagram___eq__ g_Diagram___eq__ q_Diagram___eq__
  have g_is_integer := d_is_integer (P := P) (w := w) (base := base) T M Z F_is_integer
  have e_is_integer_0 := fcd_mk (j := 1) (dws := []) F_is_integer g_is_integer (FunD.binds1 F_is_integer 2 1 (by simp) rfl fun _ _ _ _ _ _ _ us its hu hi => match us, its, hu, hi with | [_, _], [_], _, _ => ⟨_, rfl, rfl⟩) (fun _ _ => .nil)
  have e_is_integer_1 := fcd_mk (j := 0) (dws := [.int 0]) F_is_integer g_is_integer (FunD.binds1 F_is_integer 1 0 (by simp) rfl fun _ _ _ _ _ _ _ us its hu hi => match us, its, hu, hi with | [_], [_], _, _ => ⟨_, rfl, rfl⟩) (fun _ _ => .cons (.int _) (.nil))
  have g_is_columns := d_is_columns (P := P) (w := w) (base := base) T M Z F_is_columns (e_is_integer_0.mono (by decide))
  have e_is_columns := fc_mk F_is_columns g_is_columns q_is_columns
  have g_check_columns := d_check_columns (P := P) (w := w) (base := base) T M Z F_check_columns (e_is_columns.mono (by decide)) e_InvalidColumns
  have e_check_columns := fc_mk F_check_columns g_check_columns q_check_columns
  have g_border_walk := d_border_walk (P := P) (w := w) (base := base) T M Z F_border_walk
  have e_border_walk := fc_mk F_border_walk g_border_walk q_border_walk
  have g_has_crossing := d_has_crossing (P := P) (w := w) (base := base) T M Z F_has_crossing (e_border_walk.mono (by decide))
  have e_has_crossing := fc_mk F_has_crossing g_has_crossing q_has_crossing
  have g_is_partners := d_is_partners (P := P) (w := w) (base := base) T M Z F_is_partners (e_Diagram___eq__.mono (by decide)) (e_has_crossing.mono (by decide)) (e_is_columns.mono (by decide)) (e_is_integer_1.mono (by decide))
  have e_is_partners := fc_mk F_is_partners g_is_partners q_is_partners
  have g_Diagram___init__ := d_Diagram___init__ (P := P) (w := w) (base := base) T M Z F_Diagram___init__ (e_is_partners.mono (by decide)) e_InvalidDiagram
  have e_Diagram___init__ := fc_mk F_Diagram___init__ g_Diagram___init__ q_Diagram___init__
  have g_from_arcs := d_from_arcs (P := P) (w := w) (base := base) T M Z F_from_arcs (e_Diagram___init__.mono (by decide))
  have e_from_arcs := fc_mk F_from_arcs g_from_arcs q_from_arcs
  have g_generator := d_generator (P := P) (w := w) (base := base) T M Z F_generator (e_check_columns.mono (by decide)) (e_from_arcs.mono (by decide)) (e_is_integer_1.mono (by decide)) e_InvalidNumber
  have e_generator := fc_mk F_generator g_generator q_generator
  have g_identity := d_identity (P := P) (w := w) (base := base) T M Z F_identity (e_check_columns.mono (by decide)) (e_from_arcs.mono (by decide))
  have e_identity := fc_mk F_identity g_identity q_identity
  have g__law_caught := d__law_caught (P := P) (w := w) (base := base) T M Z F__law_caught (e_Diagram___eq__.mono (by decide)) (e_Diagram_partners.mono (by decide)) (e_generator.mono (by decide)) (e_identity.mono (by decide))
  have e__law_caught := fc_mk F__law_caught g__law_caught q__law_caught
  have g__law_generator := d__law_generator (P := P) (w := w) (base := base) T M Z F__law_generator
  have e__law_generator := fc_mk F__law_generator g__law_generator q__law_generator
  have g__law_pool := d__law_pool (P := P) (w := w) (base := base) T M Z F__law_pool
  have e__law_pool := fc_mk F__law_pool g__law_pool q__law_pool
  have g__law_take := d__law_take (P := P) (w := w) (base := base) T M Z F__law_take
  have e__law_take := fc_mk F__law_take g__law_take q__law_take
  have g_law := d_law (P := P) (w := w) (base := base) T M Z F_law (e_Diagram___eq__.mono (by decide)) (e_Diagram_partners.mono (by decide)) (e__law_caught.mono (by decide)) (e__law_generator.mono (by decide)) (e__law_pool.mono (by decide)) (e__law_take.mono (by decide)) (e_generator.mono (by decide))
  exact g_law
abbrev lvl : Nat := 9
end K03
set_option Elab.async false
set_option linter.all false
set_option maxRecDepth 100000
set_option maxHeartbeats 1000000
namespace K03
open PySem PySem.Spec PyProof.Rows L2 CC
theorem i64_of {i : Int} (a : -(2 ^ 64) < i) (b : i < 2 ^ 64) : i64 i = true := by
  unfold i64; rw [decide_eq_true a, decide_eq_true b]; rfl
theorem i64_mod (a : Int) (m : Int) (h : 0 < m) (h2 : m < 2 ^ 64) : i64 (a % m) = true :=
  i64_of (by have := Int.emod_nonneg a (show m ≠ 0 by omega); omega) (by have := Int.emod_lt_of_pos a h; omega)
theorem atI_frz {ns : List Int} {k : Nat} (h : k < ns.length) : atI (ns.map W.int) (k : Int) = some (.int ns[k]) := by
  unfold atI
  rw [show ixN (ns.map W.int).length (k : Int) = some k by
    unfold ixN; rw [if_pos (by omega), if_pos (by simp; omega)]; simp]
  simp [h]
theorem atI_00 {a b : W} : atI [a, b] 0 = some a := rfl
theorem atI_01 {a b : W} : atI [a, b] 1 = some b := rfl
theorem ixN_20 : ixN 2 0 = some 0 := rfl
theorem ixN_21 : ixN 2 1 = some 1 := rfl
theorem close1 (w1 w2 : Int) : closeK 1 [.lst [.int w1, .int w2]] 100000 [0] [] = [0] := by
  rw [closeK]; simp [refsOb, refsWs, refsW]; rw [closeK]
theorem gc1 (w1 w2 : Int) : gcS 1 (.ref 1) ⟨[], [.lst [.int w1, .int w2]]⟩ = some (.ref 1, ⟨[], [.lst [.int w1, .int w2]]⟩) := by
  unfold gcS
  simp [refsW, refsOv, close1, rnW, rnOv, rnLoc, rnOb, rnWs, ixOf]
theorem gcI (n : Nat) (r : Int) (ov : List (Nat × Ob)) (h : refsOv n ov = []) : gcS n (.int r) ⟨ov, []⟩ = some (.int r, ⟨ov, []⟩) := by
  unfold gcS
  simp [refsW, h]
theorem pow18 (p : Hh) (s : S) : gPow p (.int 10) (.int 18) s = some (.int 1000000000000000000, s) := by
  unfold gPow; rfl
theorem fLen_frz (ns : List Int) : fLen [.frz ns] [.ref 0] ⟨[], []⟩ = some (.int ns.length, ⟨[], []⟩) := by
  show some (W.int (ns.map W.int).length, _) = _
  rw [List.length_map]
theorem gIx_frz {ns : List Int} {k : Nat} (h : k < ns.length) : gIx [.frz ns] (.ref 0) (.int k) ⟨[], []⟩ = some (.int ns[k], ⟨[], []⟩) := by
  show (match atI (ns.map W.int) (k : Int) with | some w => some (w, _) | none => none) = _
  rw [atI_frz h]
theorem gLt_i (p : Hh) (i j : Int) (s : S) : gLt p (.int i) (.int j) s = some (.bl (decide (i < j)), s) := rfl
theorem gGe_i (p : Hh) (i j : Int) (s : S) : gGe p (.int i) (.int j) s = some (.bl (decide (j ≤ i)), s) := rfl
theorem gAdd_i (p : Hh) (i j : Int) (s : S) : gAdd p (.int i) (.int j) s = some (.int (i + j), s) := rfl
theorem gMul_i (p : Hh) (i j : Int) (s : S) (h : (i64 i || i64 j) = true) : gMul p (.int i) (.int j) s = some (.int (i * j), s) := by
  show (if _ then _ else _) = _
  rw [if_pos h]
theorem gMod_i (p : Hh) (i j : Int) (s : S) (h : 0 < j) : gMod p (.int i) (.int j) s = some (.int (i % j), s) := by
  show (if _ then _ else _) = _
  rw [if_pos h]
theorem bin_ok {f : Hh → W → W → S → O2} {p : Hh} {ma mb : Lo → S → R W} {l : Lo} {s s1 s2 s3 : S} {x y z : W} (h1 : ma l s = .ok x s1) (h2 : mb l s1 = .ok y s2) (h3 : f p x y s2 = some (z, s3)) : eBin f p ma mb l s = .ok z s3 := by
  unfold eBin; rw [h1]; show CC.R.bind (mb l s1) _ = _; rw [h2]; show R.ofO (f p x y s2) = _; rw [h3]; rfl
def cell (ns : List Int) (k : Nat) : Int := if h : k < ns.length then (if ns[k] < 0 then -ns[k] else ns[k]) else 0
theorem cell_nn (ns : List Int) (k : Nat) : 0 ≤ cell ns k := by
  unfold cell; split
  · split <;> omega
  · decide
def mixed (c k : Int) : Int := (c % 2147483629 + 7919 * k * k + 31 * k + 17) * 48271 % 2147483647
def pool2 (p : Hh) : Lo → S → RS := (sIf (tVal (eBin gLt p (eVar 1) (eB fLen p (aCons (eVar 0) aNil)))) (sAsg (gNm 2) (eB fAbs p (aCons (eIx p (eVar 0) (eVar 1)) aNil))) sNx)
theorem pool2_ok (ns : List Int) (k : Nat) : pool2 [.frz ns] [some (.ref 0), some (.int k), some (.int 0), none] ⟨[], []⟩ = .nx [some (.ref 0), some (.int k), some (.int (cell ns k)), none] ⟨[], []⟩ := by
  have e : eB fLen [.frz ns] (aCons (eVar 0) aNil) [some (.ref 0), some (.int k), some (.int 0), none] ⟨[], []⟩ = .ok (.int ns.length) ⟨[], []⟩ := by
    show R.ofO (fLen [.frz ns] [.ref 0] ⟨[], []⟩) = _
    rw [fLen_frz]; rfl
  have t : tVal (eBin gLt [.frz ns] (eVar 1) (eB fLen [.frz ns] (aCons (eVar 0) aNil))) [some (.ref 0), some (.int k), some (.int 0), none] ⟨[], []⟩ = .ok (decide ((k : Int) < (ns.length : Int))) ⟨[], []⟩ := by
    unfold tVal
    rw [bin_ok (f := gLt) (x := .int k) (s1 := ⟨[], []⟩) (by rfl) e (gLt_i _ _ _ _)]; rfl
  unfold pool2 sIf
  rw [t]
  by_cases h : k < ns.length
  · rw [decide_eq_true (show (k : Int) < (ns.length : Int) by omega)]
    have i : eIx [.frz ns] (eVar 0) (eVar 1) [some (.ref 0), some (.int k), some (.int 0), none] ⟨[], []⟩ = .ok (.int ns[k]) ⟨[], []⟩ := by
      show R.ofO (gIx [.frz ns] (.ref 0) (.int k) ⟨[], []⟩) = _
      rw [gIx_frz h]; rfl
    have a : eB fAbs [.frz ns] (aCons (eIx [.frz ns] (eVar 0) (eVar 1)) aNil) [some (.ref 0), some (.int k), some (.int 0), none] ⟨[], []⟩ = .ok (.int (cell ns k)) ⟨[], []⟩ := by
      unfold eB aCons; rw [i]; unfold cell; rw [dif_pos h]; rfl
    show sAsg _ _ _ _ = _
    unfold sAsg; rw [a]; rfl
  · rw [decide_eq_false (show ¬ (k : Int) < (ns.length : Int) by omega)]
    unfold cell; rw [dif_neg h]; rfl
theorem seq_nx {m k : Lo → S → RS} {l l1 : Lo} {s s1 : S} (h : m l s = .nx l1 s1) : sSeq m k l s = k l1 s1 := by unfold sSeq; rw [h]
theorem fnI_ret {np N : Nat} {b : Hh → Lo → S → RS} {p : Hh} {ws : List W} {w w' : W} {s s' : S} (hl : ws.length = np) (hb : b p (ws.map some ++ List.replicate (N - ws.length) none) ⟨[], []⟩ = .ret w s) (hg : gcS p.length w s = some (w', s')) : fnI np N b p ws = .ok w' s' := by
  unfold fnI fnI.fnB
  rw [if_pos hl, hb]
  show R.ofO (gcS p.length w s) = _
  rw [hg]; rfl
theorem cons_ok {ma : Lo → S → R W} {mr : Lo → S → R (List W)} {l : Lo} {s s1 s2 : S} {x : W} {xs : List W} (h1 : ma l s = .ok x s1) (h2 : mr l s1 = .ok xs s2) : aCons ma mr l s = .ok (x :: xs) s2 := by
  unfold aCons; rw [h1]; show CC.R.bind (mr l s1) _ = _; rw [h2]; rfl
theorem eb_ok {f : Hh → List W → S → O2} {p : Hh} {mr : Lo → S → R (List W)} {l : Lo} {s s1 s2 : S} {xs : List W} {w : W} (h1 : mr l s = .ok xs s1) (h2 : f p xs s1 = some (w, s2)) : eB f p mr l s = .ok w s2 := by
  unfold eB; rw [h1]; show R.ofO (f p xs s1) = _; rw [h2]; rfl
theorem lst_ok {p : Hh} {mr : Lo → S → R (List W)} {l : Lo} {s s1 : S} {xs : List W} (h1 : mr l s = .ok xs s1) (h2 : xs.length ≤ 1000000) : eLst p mr l s = .ok (.ref (nxt p s1)) (al s1 (.lst xs)) := by
  unfold eLst; rw [h1]; show (if _ then _ else _) = _; rw [if_pos h2]
theorem ret_ok {me : Lo → S → R W} {l : Lo} {s s1 : S} {w : W} (h1 : me l s = .ok w s1) : sRet me l s = .ret w s1 := by
  unfold sRet; rw [h1]; rfl
theorem asg_ok {me : Lo → S → R W} {l : Lo} {i : Nat} {s s1 : S} {w : W} (h1 : me l s = .ok w s1) : sAsg (gNm i) me l s = .nx (l.set i (some w)) s1 := by
  unfold sAsg; rw [h1]; rfl
theorem fInt_b (p : Hh) (b : Bool) (s : S) : fInt p [.bl b] s = some (.int (if b then 1 else 0), s) := rfl
theorem or_l {a b : Bool} (h : a = true) : (a || b) = true := by rw [h]; rfl
theorem or_r {a b : Bool} (h : b = true) : (a || b) = true := by rw [h, Bool.or_true]
theorem i64_if (b : Bool) : i64 (if b then 1 else 0) = true := by cases b <;> rfl
theorem pool_b (ns : List Int) (k : Nat) (hk : k < 64) : b__law_pool [.frz ns] [some (.ref 0), some (.int k), none, none] ⟨[], []⟩ = .ret (.ref 1) ⟨[], [.lst [.int (cell ns k * (if decide (1000000000000000000 ≤ cell ns k) then 1 else 0)), .int (mixed (cell ns k) k * mixed (cell ns k) k % 2147483629)]]⟩ := by
  have e1 : i64 7919 = true := rfl
  have e2 : i64 31 = true := rfl
  have e3 : i64 48271 = true := rfl
  have e6 : i64 (7919 * (k : Int)) = true := i64_of (by omega) (by omega)
  have e7 : ∀ a : Int, i64 (a % 2147483647) = true := fun a => i64_mod a _ (by decide) (by decide)
  unfold b__law_pool
  refine (seq_nx (l1 := [some (.ref 0), some (.int k), some (.int 0), none]) (s1 := ⟨[], []⟩) (by rfl)).trans ((seq_nx (pool2_ok ns k)).trans ?_)
  generalize cell ns k = c
  generalize hz : (k : Int) = z at e6 ⊢
  refine (seq_nx (asg_ok (w := .int (mixed c z)) (s1 := ⟨[], []⟩) (bin_ok (bin_ok (bin_ok (bin_ok (bin_ok (bin_ok (x := .int c) (s1 := ⟨[], []⟩) rfl rfl (gMod_i _ _ 2147483629 _ (by decide))) (bin_ok (bin_ok rfl (y := .int z) (s2 := ⟨[], []⟩) rfl (gMul_i _ _ _ _ (or_l e1))) (y := .int z) (s2 := ⟨[], []⟩) rfl (gMul_i _ _ _ _ (or_l e6))) (gAdd_i _ _ _ _)) (bin_ok rfl (y := .int z) (s2 := ⟨[], []⟩) rfl (gMul_i _ _ _ _ (or_l e2))) (gAdd_i _ _ _ _)) rfl (gAdd_i _ _ _ _)) rfl (gMul_i _ _ _ _ (or_r e3))) rfl (gMod_i _ _ 2147483647 _ (by decide))))).trans ?_
  generalize hm : mixed c z = m
  have em : i64 m = true := by rw [← hm]; exact e7 _
  refine ret_ok ((lst_ok (xs := [.int (c * if decide (1000000000000000000 ≤ c) then 1 else 0), .int (m * m % 2147483629)]) (s1 := ⟨[], []⟩) ?h (show 2 ≤ 1000000 by decide)).trans rfl)
  refine cons_ok (s1 := ⟨[], []⟩) ?a (cons_ok (s1 := ⟨[], []⟩) ?b rfl)
  case a =>
    refine bin_ok (x := .int c) (s1 := ⟨[], []⟩) (s2 := ⟨[], []⟩) rfl (y := .int (if decide (1000000000000000000 ≤ c) then 1 else 0)) ?q (gMul_i _ _ _ _ (or_r (i64_if _)))
    refine eb_ok (s1 := ⟨[], []⟩) (xs := [.bl (decide (1000000000000000000 ≤ c))]) (cons_ok (s1 := ⟨[], []⟩) ?r rfl) (fInt_b _ _ _)
    refine bin_ok (x := .int c) (s1 := ⟨[], []⟩) (s2 := ⟨[], []⟩) rfl (y := .int 1000000000000000000) ?t (gGe_i _ _ _ _)
    exact bin_ok (x := .int 10) (y := .int 18) (s1 := ⟨[], []⟩) (s2 := ⟨[], []⟩) rfl rfl (pow18 _ _)
  case b =>
    refine bin_ok (x := .int (m * m)) (s1 := ⟨[], []⟩) (s2 := ⟨[], []⟩) (y := .int 2147483629) ?q2 rfl (gMod_i _ _ _ _ (by decide))
    exact bin_ok (x := .int m) (y := .int m) (s1 := ⟨[], []⟩) (s2 := ⟨[], []⟩) rfl rfl (gMul_i _ _ _ _ (or_l em))
theorem pool_spec (ns : List Int) (k : Nat) (hk : k < 64) : ∃ a b : Int, 0 ≤ a ∧ 0 ≤ b ∧ m__law_pool [.frz ns] [.ref 0, .int k] = .ok (.ref 1) ⟨[], [.lst [.int a, .int b]]⟩ := by
  refine ⟨cell ns k * (if decide (1000000000000000000 ≤ cell ns k) then 1 else 0), mixed (cell ns k) k * mixed (cell ns k) k % 2147483629, ?_, Int.emod_nonneg _ (by decide), ?_⟩
  · have := cell_nn ns k
    split <;> omega
  · unfold m__law_pool
    exact fnI_ret rfl (pool_b ns k hk) (gc1 _ _)
theorem take_spec (a b n : Int) (ha : 0 ≤ a) (hb : 0 ≤ b) (h0 : 0 < n) (h1 : n < 1073741824) : ∃ a' b' r : Int, 0 ≤ a' ∧ 0 ≤ b' ∧ 0 ≤ r ∧ r < n ∧ m__law_take [.lst [.int a, .int b]] [.ref 0, .int n] = .ok (.int r) ⟨[(0, .lst [.int a', .int b'])], []⟩ := by
  have e3 : i64 48271 = true := rfl
  have e7 : ∀ a : Int, i64 (a % 2147483647) = true := fun a => i64_mod a _ (by decide) (by decide)
  by_cases h : 0 < a
  · refine ⟨a / n, b, a % n, Int.ediv_nonneg ha (by omega), hb, Int.emod_nonneg _ (by omega), Int.emod_lt_of_pos _ h0, ?_⟩
    unfold m__law_take fnI fnI.fnB b__law_take
    simp [sSeq, sAsg, sIf, sRet, eBin, eVar, eC, eB, eIx, eLst, aCons, aNil, tVal, CC.R.bind, R.ofO, nxO, R.toS, gNm, gLt, gGt, sNx, fLen, seqItems, cellItems, rd, lookN, gMod, gMul, gFdiv, gAdd, gGe, fInt, fAbs, gIx, al, nxt, gcI, refsOv, refsOb, refsWs, refsW, gSubT, gSetX, h, h0, h1, atI_00, ixN_20, wr, putN]
  · refine ⟨a, (b * 48271 + 12345) % 2147483647, (((b * 48271 + 12345) % 2147483647) * ((b * 48271 + 12345) % 2147483647) % 2147483629) / 64 % n, ha, Int.emod_nonneg _ (by decide), Int.emod_nonneg _ (by omega), Int.emod_lt_of_pos _ h0, ?_⟩
    unfold m__law_take fnI fnI.fnB b__law_take
    simp [sSeq, sAsg, sIf, sRet, eBin, eVar, eC, eB, eIx, eLst, aCons, aNil, tVal, CC.R.bind, R.ofO, nxO, R.toS, gNm, gLt, gGt, sNx, fLen, seqItems, cellItems, rd, lookN, gMod, gMul, gFdiv, gAdd, gGe, fInt, fAbs, gIx, al, nxt, gcI, refsOv, refsOb, refsWs, refsW, gSubT, gSetX, h, h0, h1, atI_00, atI_01, ixN_20, ixN_21, wr, putN, e3, e7]
end K03
set_option Elab.async false
set_option linter.all false
set_option maxRecDepth 100000
namespace K03
open PySem PySem.Spec PyProof.Rows L2 CC
def good8 : RS → Bool
  | .nx l s => (match s.ov with | [] => true | _ => false) && (match l with | [some (.ref 0), _, _, _, _, _, _, _] => true | _ => false)
  | _ => false
def ret8 : RS → Bool
  | .ret (.bl true) ⟨[], _⟩ => true
  | _ => false
theorem eight : ret8 (b_law_8 [] [none, none, none, none, none, none, none, none] ⟨[], []⟩) = true := by kernel_rfl
theorem six_1 (ns : List Int) : good8 (b_law_6 [.frz ns] [some (.ref 0), none, none, some (.int 1), none, none, none, none] ⟨[], []⟩) = true := by kernel_rfl
theorem six_2 (ns : List Int) : good8 (b_law_6 [.frz ns] [some (.ref 0), none, none, some (.int 2), none, none, none, none] ⟨[], []⟩) = true := by kernel_rfl
theorem six_3 (ns : List Int) : good8 (b_law_6 [.frz ns] [some (.ref 0), none, none, some (.int 3), none, none, none, none] ⟨[], []⟩) = true := by kernel_rfl
theorem six_4 (ns : List Int) : good8 (b_law_6 [.frz ns] [some (.ref 0), none, none, some (.int 4), none, none, none, none] ⟨[], []⟩) = true := by kernel_rfl
theorem six_5 (ns : List Int) : good8 (b_law_6 [.frz ns] [some (.ref 0), none, none, some (.int 5), none, none, none, none] ⟨[], []⟩) = true := by kernel_rfl
theorem six_6 (ns : List Int) : good8 (b_law_6 [.frz ns] [some (.ref 0), none, none, some (.int 6), none, none, none, none] ⟨[], []⟩) = true := by kernel_rfl
theorem six_7 (ns : List Int) : good8 (b_law_6 [.frz ns] [some (.ref 0), none, none, some (.int 7), none, none, none, none] ⟨[], []⟩) = true := by kernel_rfl
theorem six_8 (ns : List Int) : good8 (b_law_6 [.frz ns] [some (.ref 0), none, none, some (.int 8), none, none, none, none] ⟨[], []⟩) = true := by kernel_rfl
theorem six_9 (ns : List Int) : good8 (b_law_6 [.frz ns] [some (.ref 0), none, none, some (.int 9), none, none, none, none] ⟨[], []⟩) = true := by kernel_rfl
theorem six_10 (ns : List Int) : good8 (b_law_6 [.frz ns] [some (.ref 0), none, none, some (.int 10), none, none, none, none] ⟨[], []⟩) = true := by kernel_rfl
theorem six_11 (ns : List Int) : good8 (b_law_6 [.frz ns] [some (.ref 0), none, none, some (.int 11), none, none, none, none] ⟨[], []⟩) = true := by kernel_rfl
theorem six_12 (ns : List Int) : good8 (b_law_6 [.frz ns] [some (.ref 0), none, none, some (.int 12), none, none, none, none] ⟨[], []⟩) = true := by kernel_rfl
theorem six_13 (ns : List Int) : good8 (b_law_6 [.frz ns] [some (.ref 0), none, none, some (.int 13), none, none, none, none] ⟨[], []⟩) = true := by kernel_rfl
theorem six_14 (ns : List Int) : good8 (b_law_6 [.frz ns] [some (.ref 0), none, none, some (.int 14), none, none, none, none] ⟨[], []⟩) = true := by kernel_rfl
theorem six_15 (ns : List Int) : good8 (b_law_6 [.frz ns] [some (.ref 0), none, none, some (.int 15), none, none, none, none] ⟨[], []⟩) = true := by kernel_rfl
theorem six_16 (ns : List Int) : good8 (b_law_6 [.frz ns] [some (.ref 0), none, none, some (.int 16), none, none, none, none] ⟨[], []⟩) = true := by kernel_rfl
theorem six (ns : List Int) (r : Int) (h0 : 0 ≤ r) (h1 : r < 16) : good8 (b_law_6 [.frz ns] [some (.ref 0), none, none, some (.int (1 + r)), none, none, none, none] ⟨[], []⟩) = true := by
  have h : r = 0 ∨ r = 1 ∨ r = 2 ∨ r = 3 ∨ r = 4 ∨ r = 5 ∨ r = 6 ∨ r = 7 ∨ r = 8 ∨ r = 9 ∨ r = 10 ∨ r = 11 ∨ r = 12 ∨ r = 13 ∨ r = 14 ∨ r = 15 := by omega
  rcases h with rfl | rfl | rfl | rfl | rfl | rfl | rfl | rfl | rfl | rfl | rfl | rfl | rfl | rfl | rfl | rfl
  · exact six_1 ns
  · exact six_2 ns
  · exact six_3 ns
  · exact six_4 ns
  · exact six_5 ns
  · exact six_6 ns
  · exact six_7 ns
  · exact six_8 ns
  · exact six_9 ns
  · exact six_10 ns
  · exact six_11 ns
  · exact six_12 ns
  · exact six_13 ns
  · exact six_14 ns
  · exact six_15 ns
  · exact six_16 ns
end K03
set_option Elab.async false
set_option linter.all false
set_option maxRecDepth 100000
namespace K03
open PySem PySem.Spec PyProof.Rows L2 CC
def Good (r : RS) : Prop := ∃ x1 x2 x3 x4 x5 x6 x7 loc, r = .nx [some (.ref 0), x1, x2, x3, x4, x5, x6, x7] ⟨[], loc⟩
theorem good_of {r : RS} (h : good8 r = true) : Good r := by
  unfold good8 at h
  split at h
  · rename_i l s
    obtain ⟨a, b⟩ := Bool.and_eq_true_iff.mp h
    split at a
    · rename_i e
      split at b
      · obtain ⟨ov, loc⟩ := s
        obtain rfl : ov = [] := e
        exact ⟨_, _, _, _, _, _, _, loc, rfl⟩
      · cases b
    · cases a
  · cases h
theorem frm_good {mf : Hh → Lo → S → RS} {live : List Nat} {p pc : Hh} {l lc : Lo} {loc : List Ob} (h1 : frmL [0] live 0 l = some lc) (h2 : rnCells p ⟨[], loc⟩ [0] [0] = some pc) (g : Good (mf pc lc ⟨[], []⟩)) : Good (frmK mf live p l ⟨[], loc⟩ [0]) := by
  obtain ⟨x1, x2, x3, x4, x5, x6, x7, loc2, e⟩ := g
  unfold frmK
  rw [h1, h2]
  show Good (match mf pc lc ⟨[], []⟩ with
    | .nx l2 s2 => .nx (upL [0] (nxt p ⟨[], loc⟩) l2) (upS p [0] ⟨[], loc⟩ s2)
    | .brk l2 s2 => .brk (upL [0] (nxt p ⟨[], loc⟩) l2) (upS p [0] ⟨[], loc⟩ s2)
    | .ct l2 s2 => .ct (upL [0] (nxt p ⟨[], loc⟩) l2) (upS p [0] ⟨[], loc⟩ s2)
    | .ret w s2 => .ret (upW [0] (nxt p ⟨[], loc⟩) w) (upS p [0] ⟨[], loc⟩ s2)
    | .exc c w l2 s2 => .exc c (upW [0] (nxt p ⟨[], loc⟩) w) (upL [0] (nxt p ⟨[], loc⟩) l2) (upS p [0] ⟨[], loc⟩ s2)
    | .bad => .bad)
  rw [e]
  generalize nxt p ⟨[], loc⟩ = b
  have hb : ∀ o : Option W, ∃ o', ∀ r, upL [0] b (o :: r) = o' :: upL [0] b r := fun o => by cases o <;> exact ⟨_, fun _ => rfl⟩
  obtain ⟨y1, e1⟩ := hb x1
  obtain ⟨y2, e2⟩ := hb x2
  obtain ⟨y3, e3⟩ := hb x3
  obtain ⟨y4, e4⟩ := hb x4
  obtain ⟨y5, e5⟩ := hb x5
  obtain ⟨y6, e6⟩ := hb x6
  obtain ⟨y7, e7⟩ := hb x7
  refine ⟨y1, y2, y3, y4, y5, y6, y7, (upS p [0] ⟨[], loc⟩ ⟨[], loc2⟩).loc, ?_⟩
  show RS.nx (some (upW [0] b (.ref 0)) :: upL [0] b [x1, x2, x3, x4, x5, x6, x7]) _ = _
  rw [e1, e2, e3, e4, e5, e6, e7]
  rfl
theorem callK_ok {F : Hh → List W → R W} {p pc : Hh} {xs ys : List W} {s s' : S} {keep : List Nat} {w : W} (h1 : rnWs 0 keep xs = some ys) (h2 : rnCells p s keep keep = some pc) (h3 : F pc ys = .ok w s') : callK F p xs s keep = .ok (upW keep (nxt p s) w) (upS p keep s s') := by
  unfold callK; rw [h1, h2]
  show (match F pc ys with
    | .ok w s' => R.ok (upW keep (nxt p s) w) (upS p keep s s')
    | .exc c w s' => R.exc c (upW keep (nxt p s) w) (upS p keep s s')
    | .bad => R.bad) = _
  rw [h3]
theorem callF_pool (F : Hh → List W → R W) (ns : List Int) (k : Int) : callF F [.frz ns] [.ref 0, .int k] ⟨[], []⟩ = callK F [.frz ns] [.ref 0, .int k] ⟨[], []⟩ [0] := by kernel_rfl
theorem callF_take (F : Hh → List W → R W) (ns : List Int) (a b k : Int) : callF F [.frz ns] [.ref 1, .int k] ⟨[], [.lst [.int a, .int b]]⟩ = callK F [.frz ns] [.ref 1, .int k] ⟨[], [.lst [.int a, .int b]]⟩ [1] := by kernel_rfl
theorem call_ok {F : Hh → List W → R W} {p : Hh} {mr : Lo → S → R (List W)} {l : Lo} {s s1 s2 : S} {xs : List W} {w : W} (h1 : mr l s = .ok xs s1) (h2 : callF F p xs s1 = .ok w s2) : eCall F p [] mr l s = .ok w s2 := by
  unfold eCall; rw [h1]; show callF F p (xs ++ []) s1 = _; rw [List.append_nil, h2]
theorem seven (ns : List Int) (k : Nat) (hk : k < 64) : Good (b_law_7 [.frz ns] [some (.ref 0), some (.int k), none, none, none, none, none, none] ⟨[], []⟩) := by
  obtain ⟨a, b, ha, hb, e1⟩ := pool_spec ns k hk
  obtain ⟨a', b', r, ha', hb', hr0, hr1, e2⟩ := take_spec a b 16 ha hb (by decide) (by decide)
  generalize (k : Int) = z at e1 ⊢
  have c1 : callF m__law_pool [.frz ns] [.ref 0, .int z] ⟨[], []⟩ = .ok (.ref 1) ⟨[], [.lst [.int a, .int b]]⟩ :=
    (callF_pool _ ns z).trans ((callK_ok rfl rfl e1).trans rfl)
  have c2 : callF m__law_take [.frz ns] [.ref 1, .int 16] ⟨[], [.lst [.int a, .int b]]⟩ = .ok (.int r) ⟨[], [.lst [.int a', .int b']]⟩ :=
    (callF_take _ ns a b 16).trans ((callK_ok rfl rfl e2).trans rfl)
  unfold b_law_7
  rw [seq_nx (asg_ok (call_ok (xs := [.ref 0, .int z]) (s1 := ⟨[], []⟩) rfl c1))]
  rw [seq_nx (asg_ok (bin_ok (x := .int 1) (s1 := ⟨[], [.lst [.int a, .int b]]⟩) rfl (call_ok (xs := [.ref 1, .int 16]) (s1 := ⟨[], [.lst [.int a, .int b]]⟩) rfl c2) (gAdd_i _ _ _ _)))]
  have g := good_of (six ns r hr0 hr1)
  generalize 1 + r = c at g ⊢
  unfold sFrame
  exact frm_good (pc := [.frz ns]) (lc := [some (.ref 0), none, none, some (.int c), none, none, none, none]) rfl rfl g
theorem body7 (ns : List Int) (k : Nat) (hk : k < 64) (x2 x3 x4 x5 x6 x7 : Option W) (loc : List Ob) : Good (sFrame [0, 1] b_law_7 [.frz ns] [some (.ref 0), some (.int k), x2, x3, x4, x5, x6, x7] ⟨[], loc⟩) := by
  have g := seven ns k hk
  generalize (k : Int) = z at g ⊢
  unfold sFrame
  exact frm_good (pc := [.frz ns]) (lc := [some (.ref 0), some (.int z), none, none, none, none, none, none]) rfl rfl g
theorem loop7 (ns : List Int) (n : Nat) (hn : n ≤ 64) : ∀ (f i : Nat), n - i < f → ∀ (x1 x2 x3 x4 x5 x6 x7 : Option W) (loc : List Ob), Good (forI [.frz ns] (gNm 1) (sFrame [0, 1] b_law_7 [.frz ns]) (.rng 0 1 n) f i [some (.ref 0), x1, x2, x3, x4, x5, x6, x7] ⟨[], loc⟩)
  | 0, i, h, _, _, _, _, _, _, _, _ => absurd h (by omega)
  | f + 1, i, h, x1, x2, x3, x4, x5, x6, x7, loc => by
    unfold forI
    by_cases hi : i < n
    · have e : ItD.next [.frz ns] ⟨[], loc⟩ (.rng 0 1 n) i = some (some (.int (i : Nat))) := by
        show some (if i < n then some (W.int ((0 : Int) + (i : Nat) * 1)) else none) = _
        rw [if_pos hi, Int.zero_add, Int.mul_one]
      rw [e]
      obtain ⟨y1, y2, y3, y4, y5, y6, y7, loc2, g⟩ := body7 ns i (by omega) x2 x3 x4 x5 x6 x7 loc
      show Good (match sFrame [0, 1] b_law_7 [.frz ns] [some (.ref 0), some (.int (i : Nat)), x2, x3, x4, x5, x6, x7] ⟨[], loc⟩ with
        | .nx l2 s2 => forI [.frz ns] (gNm 1) (sFrame [0, 1] b_law_7 [.frz ns]) (.rng 0 1 n) f (i + 1) l2 s2
        | .ct l2 s2 => forI [.frz ns] (gNm 1) (sFrame [0, 1] b_law_7 [.frz ns]) (.rng 0 1 n) f (i + 1) l2 s2
        | .brk l2 s2 => .nx l2 s2
        | r => r)
      rw [g]
      exact loop7 ns n hn f (i + 1) (by omega) y1 y2 y3 y4 y5 y6 y7 loc2
    · have e : ItD.next [.frz ns] ⟨[], loc⟩ (.rng 0 1 n) i = some none := by
        show some (if i < n then some (W.int ((0 : Int) + (i : Nat) * 1)) else none) = _
        rw [if_neg hi]
      rw [e]
      exact ⟨x1, x2, x3, x4, x5, x6, x7, loc, rfl⟩
theorem fMin2_i (p : Hh) (i j : Int) (s : S) : fMin2 p [.int i, .int j] s = some (.int (if j < i then j else i), s) := rfl
theorem fMax2_i (p : Hh) (i j : Int) (s : S) : fMax2 p [.int i, .int j] s = some (.int (if j > i then j else i), s) := rfl
def cnt7 (m : Int) : Int := if (if m < 10 then m else 10) > 1 then (if m < 10 then m else 10) else 1
theorem cnt7_ok (m : Int) : 1 ≤ cnt7 m ∧ cnt7 m ≤ 10 := by
  unfold cnt7
  split <;> split <;> omega
theorem rng7 (ns : List Int) : iRange1 (eB fMax2 [.frz ns] (aCons (eC (.int 1)) (aCons (eB fMin2 [.frz ns] (aCons (eC (.int 10)) (aCons (eB fLen [.frz ns] (aCons (eVar 0) aNil)) aNil))) aNil))) [some (.ref 0), none, none, none, none, none, none, none] ⟨[], []⟩ = .ok (.rng 0 1 (cnt7 ns.length).toNat) ⟨[], []⟩ := by
  have e : eB fLen [.frz ns] (aCons (eVar 0) aNil) [some (.ref 0), none, none, none, none, none, none, none] ⟨[], []⟩ = .ok (.int ns.length) ⟨[], []⟩ :=
    eb_ok (xs := [.ref 0]) (s1 := ⟨[], []⟩) rfl (fLen_frz ns)
  have hc := cnt7_ok ns.length
  generalize (ns.length : Int) = m at e hc ⊢
  have e2 := eb_ok (f := fMax2) (p := [.frz ns]) (cons_ok (x := .int 1) (ma := eC (.int 1)) (l := [some (.ref 0), none, none, none, none, none, none, none]) (s := ⟨[], []⟩) (s1 := ⟨[], []⟩) rfl (cons_ok (eb_ok (f := fMin2) (p := [.frz ns]) (cons_ok (x := .int 10) (ma := eC (.int 10)) (s1 := ⟨[], []⟩) rfl (cons_ok e (xs := []) (mr := aNil) rfl)) (fMin2_i _ _ _ _)) (xs := []) (mr := aNil) rfl)) (fMax2_i _ _ _ _)
  unfold iRange1
  rw [e2]
  show (if b62 (cnt7 m) then R.ok (ItD.rng 0 1 (cnt7 m).toNat) _ else .bad) = _
  rw [if_pos]
  unfold b62
  rw [decide_eq_true (show -(2 ^ 62) ≤ cnt7 m by omega), decide_eq_true (show cnt7 m < 2 ^ 62 by omega)]
  rfl
theorem last8 (ns : List Int) (x1 x2 x3 x4 x5 x6 x7 : Option W) (loc : List Ob) : ∃ loc', sFrame [] b_law_8 [.frz ns] [some (.ref 0), x1, x2, x3, x4, x5, x6, x7] ⟨[], loc⟩ = .ret (.bl true) ⟨[], loc'⟩ := by
  have h := eight
  unfold sFrame
  show ∃ loc', frmK b_law_8 [] [.frz ns] [some (.ref 0), x1, x2, x3, x4, x5, x6, x7] ⟨[], loc⟩ [] = _
  unfold frmK
  show ∃ loc', (match b_law_8 [] [none, none, none, none, none, none, none, none] ⟨[], []⟩ with
    | .nx l2 s2 => RS.nx (upL [] (nxt [.frz ns] ⟨[], loc⟩) l2) (upS [.frz ns] [] ⟨[], loc⟩ s2)
    | .brk l2 s2 => .brk (upL [] (nxt [.frz ns] ⟨[], loc⟩) l2) (upS [.frz ns] [] ⟨[], loc⟩ s2)
    | .ct l2 s2 => .ct (upL [] (nxt [.frz ns] ⟨[], loc⟩) l2) (upS [.frz ns] [] ⟨[], loc⟩ s2)
    | .ret w s2 => .ret (upW [] (nxt [.frz ns] ⟨[], loc⟩) w) (upS [.frz ns] [] ⟨[], loc⟩ s2)
    | .exc c w l2 s2 => .exc c (upW [] (nxt [.frz ns] ⟨[], loc⟩) w) (upL [] (nxt [.frz ns] ⟨[], loc⟩) l2) (upS [.frz ns] [] ⟨[], loc⟩ s2)
    | .bad => .bad) = _
  generalize b_law_8 [] [none, none, none, none, none, none, none, none] ⟨[], []⟩ = r at h ⊢
  unfold ret8 at h
  split at h
  · exact ⟨_, rfl⟩
  · cases h
theorem yes (ns : List Int) (h : ns.length ≤ 63) : CC.Yes (K03.m_law [.frz ns] [.ref 0]) := by
  obtain ⟨y1, y2, y3, y4, y5, y6, y7, loc2, g⟩ := loop7 ns (cnt7 ns.length).toNat (by have := cnt7_ok ns.length; omega) ((cnt7 ns.length).toNat + 1) 0 (by omega) none none none none none none none []
  obtain ⟨loc3, g2⟩ := last8 ns y1 y2 y3 y4 y5 y6 y7 loc2
  refine ⟨⟨[], []⟩, ?_⟩
  unfold m_law
  refine fnI_ret (w := .bl true) (s := ⟨[], loc3⟩) rfl ?_ rfl
  show b_law [.frz ns] [some (.ref 0), none, none, none, none, none, none, none] ⟨[], []⟩ = _
  unfold b_law
  refine (seq_nx (l1 := [some (.ref 0), y1, y2, y3, y4, y5, y6, y7]) (s1 := ⟨[], loc2⟩) ?_).trans g2
  unfold sFor
  rw [rng7]
  exact g
end K03
open PySem PySem.W PyProof.Rows in
set_option maxRecDepth 100000 in
set_option maxHeartbeats 0 in
theorem PySem.Challenge.cw_cupcap_k03_identities_and_generators_holds : PySem.Challenge.rw_cupcap_k03_identities_and_generators.Holds := by
  w_on; o_law; k_head; (case hw => w_witness2)
  k_fill
  refine CC.law_end (l := PySem.Challenge.rw_cupcap_k03_identities_and_generators) (k := K03.lvl) (x := "_law_script") (Fm := K03.m_law) rfl rfl ⟨rfl, by decide, by decide⟩ (fun w h Y => PySem.W.kIn_of Y) ?F (fun ns hn => K03.yes ns hn)
  case F =>
  intro w mg fa h KX NG hmg
  refine ⟨?nl, ?fl⟩
  (case nl => first | rfl | k_is)
  case fl =>
  refine' K03.all_mk KX NG hmg ?n_abs ?n_all ?n_bool ?n_enumerate ?n_int ?n_isinstance ?n_len ?n_list ?n_max ?n_min ?n_range ?n_repr ?n_tuple ?c_MAX_COLUMNS ?C_0 ?C_1 ?C_2 ?C_3 ?C_4 ?a_Diagram_partners ?k_Diagram_partners ?a_Diagram___eq__ ?k_Diagram___eq__ ?a_is_integer ?k_is_integer ?a_is_columns ?k_is_columns ?a_check_columns ?k_check_columns ?a_border_walk ?k_border_walk ?a_has_crossing ?k_has_crossing ?a_is_partners ?k_is_partners ?a_Diagram___init__ ?k_Diagram___init__ ?a_from_arcs ?k_from_arcs ?a_generator ?k_generator ?a_identity ?k_identity ?a__law_caught ?k__law_caught ?a__law_generator ?k__law_generator ?a__law_pool ?k__law_pool ?a__law_take ?k__law_take ?a_law ?k_law ?o_2 ?i_2 ?t_2 ?x_2 ?nf_2 ?o_1 ?i_1 ?t_1 ?x_1 ?nf_1 ?o_3 ?i_3 ?t_3 ?x_3 ?nf_3 ?r_0 ?q_0 ?mf_Diagram_partners ?mp_Diagram_partners ?cl_4 ?na_4_0 ?na_4_1 ?mf_Diagram___eq__ ?mp_Diagram___eq__ ?kq_4_NoneType ?kq_4_bool ?kq_4_int ?kq_4_str ?kq_4_list ?kq_4_tuple ?kq_4_dict ?kq_4 ?ci_4 ?ciha_4 ?cihn_4 ?ciht_4 ?cihm_4 ?ie_3 ?h_kt_3_0 ?h_ex_3_3 ?h_ex_2_3 ?h_ex_1_3 ?ie_2 ?h_kt_2_0 ?h_ex_2_2 ?h_ex_3_2 ?h_ex_1_2 ?mm_4 ?mi_4 ?mq_4
  (case n_abs => k_is)
  (case n_all => k_is)
  (case n_bool => k_is)
  (case n_enumerate => k_is)
  (case n_int => k_is)
  (case n_isinstance => k_is)
  (case n_len => k_is)
  (case n_list => k_is)
  (case n_max => k_is)
  (case n_min => k_is)
  (case n_range => k_is)
  (case n_repr => k_is)
  (case n_tuple => k_is)
  (case c_MAX_COLUMNS => k_is)
  (case C_0 => k_is)
  (case C_1 => k_is)
  (case C_2 => k_is)
  (case C_3 => k_is)
  (case C_4 => k_is)
  (case a_Diagram_partners => k_is)
  (case k_Diagram_partners => (refine' CC.kd_mk ?l ?c ?k; (case l => k_is); (case c => k_is); (case k => k_is)))
  (case a_Diagram___eq__ => k_is)
  (case k_Diagram___eq__ => (refine' CC.kd_mk ?l ?c ?k; (case l => k_is); (case c => k_is); (case k => k_is)))
  (case a_is_integer => k_is)
  (case k_is_integer => (refine' CC.kdd_mk ?l ?c ?k ?t ?r (by simp); (case l => k_is); (case c => k_is); (case k => k_is); (case t => k_is); (case r => exact .cons ⟨_, rfl⟩ (.nil))))
  (case a_is_columns => k_is)
  (case k_is_columns => (refine' CC.kd_mk ?l ?c ?k; (case l => k_is); (case c => k_is); (case k => k_is)))
  (case a_check_columns => k_is)
  (case k_check_columns => (refine' CC.kd_mk ?l ?c ?k; (case l => k_is); (case c => k_is); (case k => k_is)))
  (case a_border_walk => k_is)
  (case k_border_walk => (refine' CC.kd_mk ?l ?c ?k; (case l => k_is); (case c => k_is); (case k => k_is)))
  (case a_has_crossing => k_is)
  (case k_has_crossing => (refine' CC.kd_mk ?l ?c ?k; (case l => k_is); (case c => k_is); (case k => k_is)))
  (case a_is_partners => k_is)
  (case k_is_partners => (refine' CC.kd_mk ?l ?c ?k; (case l => k_is); (case c => k_is); (case k => k_is)))
  (case a_Diagram___init__ => k_is)
  (case k_Diagram___init__ => (refine' CC.kd_mk ?l ?c ?k; (case l => k_is); (case c => k_is); (case k => k_is)))
  (case a_from_arcs => k_is)
  (case k_from_arcs => (refine' CC.kd_mk ?l ?c ?k; (case l => k_is); (case c => k_is); (case k => k_is)))
  (case a_generator => k_is)
  (case k_generator => (refine' CC.kd_mk ?l ?c ?k; (case l => k_is); (case c => k_is); (case k => k_is)))
  (case a_identity => k_is)
  (case k_identity => (refine' CC.kd_mk ?l ?c ?k; (case l => k_is); (case c => k_is); (case k => k_is)))
  (case a__law_caught => k_is)
  (case k__law_caught => (refine' CC.kd_mk ?l ?c ?k; (case l => k_is); (case c => k_is); (case k => k_is)))
  (case a__law_generator => k_is)
  (case k__law_generator => (refine' CC.kd_mk ?l ?c ?k; (case l => k_is); (case c => k_is); (case k => k_is)))
  (case a__law_pool => k_is)
  (case k__law_pool => (refine' CC.kd_mk ?l ?c ?k; (case l => k_is); (case c => k_is); (case k => k_is)))
  (case a__law_take => k_is)
  (case k__law_take => (refine' CC.kd_mk ?l ?c ?k; (case l => k_is); (case c => k_is); (case k => k_is)))
  (case a_law => k_is)
  (case k_law => (refine' CC.kd_mk ?l ?c ?k; (case l => k_is); (case c => k_is); (case k => k_is)))
  (case o_2 => (refine' CC.oex_mk ?l ?b ?sa ?ex ?ty ?kC; (case l => k_is); (case sa => k_is); (case ex => k_is); (case ty => k_is); (case kC => k_is); (case b => rfl)))
  (case i_2 => k_is)
  (case t_2 => k_is)
  (case x_2 => (refine' CC.kd_mk ?l ?c ?k; (case l => k_is); (case c => k_is); (case k => k_is)))
  (case nf_2 => k_is)
  (case o_1 => (refine' CC.oex_mk ?l ?b ?sa ?ex ?ty ?kC; (case l => k_is); (case sa => k_is); (case ex => k_is); (case ty => k_is); (case kC => k_is); (case b => rfl)))
  (case i_1 => k_is)
  (case t_1 => k_is)
  (case x_1 => (refine' CC.kd_mk ?l ?c ?k; (case l => k_is); (case c => k_is); (case k => k_is)))
  (case nf_1 => k_is)
  (case o_3 => (refine' CC.oex_mk ?l ?b ?sa ?ex ?ty ?kC; (case l => k_is); (case sa => k_is); (case ex => k_is); (case ty => k_is); (case kC => k_is); (case b => rfl)))
  (case i_3 => k_is)
  (case t_3 => k_is)
  (case x_3 => (refine' CC.kd_mk ?l ?c ?k; (case l => k_is); (case c => k_is); (case k => k_is)))
  (case nf_3 => k_is)
  (case r_0 => (refine' ⟨?rd, ?ga⟩; (case rd => k_is); (case ga => k_is)))
  (case q_0 => k_is)
  (case mf_Diagram_partners => k_is)
  (case mp_Diagram_partners => k_is)
  (case cl_4 => (refine' L2.Cls.mk ?pg ?hd ?po ?sa; (case pg => k_is); (case hd => k_is); (case po => k_is); (case sa => k_is)))
  (case na_4_0 => k_is)
  (case na_4_1 => k_is)
  (case mf_Diagram___eq__ => k_is)
  (case mp_Diagram___eq__ => k_is)
  (case kq_4_NoneType => kit_is)
  (case kq_4_bool => kit_is)
  (case kq_4_int => kit_is)
  (case kq_4_str => kit_is)
  (case kq_4_list => kit_is)
  (case kq_4_tuple => kit_is)
  (case kq_4_dict => kit_is)
  (case kq_4 => kit_is)
  (case ci_4 => (refine' L2.Cls.mk ?pg ?hd ?po ?sa; (case pg => k_is); (case hd => k_is); (case po => k_is); (case sa => k_is)))
  (case ciha_4 => k_is)
  (case cihn_4 => k_is)
  (case ciht_4 => k_is)
  (case cihm_4 => k_is)
  (case ie_3 => (refine' CC.exi_mk ?ga ?gg ?ex ?hd ?ha ?hn ?ht ?hm; (case ga => k_is); (case gg => k_is); (case ex => k_is); (case hd => k_is); (case ha => k_is); (case hn => k_is); (case ht => k_is); (case hm => k_is)))
  (case h_kt_3_0 => kit_is)
  (case h_ex_3_3 => kts_exm)
  (case h_ex_2_3 => kts_exm)
  (case h_ex_1_3 => kts_exm)
  (case ie_2 => (refine' CC.exi_mk ?ga ?gg ?ex ?hd ?ha ?hn ?ht ?hm; (case ga => k_is); (case gg => k_is); (case ex => k_is); (case hd => k_is); (case ha => k_is); (case hn => k_is); (case ht => k_is); (case hm => k_is)))
  (case h_kt_2_0 => kit_is)
  (case h_ex_2_2 => kts_exm)
  (case h_ex_3_2 => kts_exm)
  (case h_ex_1_2 => kts_exm)
  (case mm_4 => k_is)
  (case mi_4 => k_is)
  (case mq_4 => k_is)
