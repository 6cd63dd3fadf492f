import PyProof.Rows.All
import Wide.All
import OpenK.AllK
import Wide.FinOn
import HandS.ForMost
import HandS.ForExc
import HandS.ExcInit
import HandS.ExcField
import HandS.TryMany
import HandS.TryOnly
import HandS.CallSlots
import HandS.Defaults
import HandS.WordsExc
import HandS.TupAny
import HandS.TupMul
import HandS.TupLe
import HandS.Style
import HandS.IsInst
import HandS.Deep
import HandS.Dict
import HandS.Conv
import HandS.Small
import HandS.Zip
import KE.GoesMore
import HandS.Ends
import HandS.EndBits
import HandS.Words
import HandS.OwnEq
import HandS.ExcIs
import HandS.ClsMeth
import PyProof.ExcBaseAll.OverflowError
import PyProof.ExcBaseAll.RuntimeError
import PyProof.ExcBaseAll.LookupError
import HandS.HotCalls
import KE.KExcIs
import HandS.SetFor
import HandS.NamedTupSort
import PyProof.InstEq
import HandS.SortInts
import HandS.SortRule
import KE.KDictDisplayH
import KE.KDictSum
import HandS.ExcValue
import HandS.More
import HandS.DictComp
import HandS.NoneIn
import PySem.Challenge.RW_cupcap_k46_diagrams_counted
set_option Elab.async false
set_option linter.all false
set_option maxRecDepth 100000
/-! CCBase: values, cells, results; the relation to the layer's abstract heap -/
namespace CC
open PySem PySem.Spec PyProof.Rows L2

inductive W where
  | non | bl (b : Bool) | int (i : Int) | str (s : Str) | tup (ws : List W) | ref (n : Nat)

inductive Ob where
  | lst (ws : List W) | frz (ns : List Int) | dct (kvs : List (Key × W)) | dtt (kvs : List (List Key × W)) | ins (c : Nat) (fs : List (Nat × W))

abbrev Hh := List Ob
abbrev Lo := List (Option W)
/-- overrides of the cells that stood at the entry; new cells -/
structure S where
  ov : List (Nat × Ob)
  loc : List Ob

inductive R (α : Type) where
  | ok (a : α) (s : S) | exc (c : Nat) (w : W) (s : S) | bad
inductive RS where
  | nx (l : Lo) (s : S) | ret (w : W) (s : S) | brk (l : Lo) (s : S) | ct (l : Lo) (s : S) | exc (c : Nat) (w : W) (l : Lo) (s : S) | bad

def lookN (n : Nat) : List (Nat × Ob) → Option Ob
  | [] => none
  | (m, o) :: r => if n = m then some o else lookN n r
def putN (n : Nat) (o : Ob) : List (Nat × Ob) → List (Nat × Ob)
  | [] => [(n, o)]
  | (m, u) :: r => if n = m then (m, o) :: r else (m, u) :: putN n o r
/-- the cell n -/
def rd (p : Hh) (s : S) (n : Nat) : Option Ob :=
  if n < p.length then (match lookN n s.ov with | some o => some o | none => p[n]?) else s.loc[n - p.length]?
def wr (p : Hh) (s : S) (n : Nat) (o : Ob) : S :=
  if n < p.length then ⟨putN n o s.ov, s.loc⟩ else ⟨s.ov, s.loc.set (n - p.length) o⟩
def al (s : S) (o : Ob) : S := ⟨s.ov, s.loc ++ [o]⟩
def nxt (p : Hh) (s : S) : Nat := p.length + s.loc.length

theorem lookN_put (n m : Nat) (o : Ob) : ∀ l, lookN m (putN n o l) = if m = n then some o else lookN m l := by
  intro l
  induction l with
  | nil => simp only [putN, lookN]
  | cons q r ih =>
    obtain ⟨k, u⟩ := q
    simp only [putN]
    by_cases h : n = k
    · subst h
      simp only [if_true, lookN]
      by_cases hm : m = n <;> simp [hm]
    · simp only [if_neg h, lookN, ih]
      by_cases hm : m = k
      · subst hm
        simp [Ne.symm h]
      · simp [hm]

theorem rd_al {p : Hh} {s : S} {o : Ob} {n : Nat} : rd p (al s o) n = if n = nxt p s then some o else rd p s n := by
  unfold rd al nxt
  by_cases h : n < p.length
  · have h2 : n ≠ p.length + s.loc.length := by omega
    simp only [h, if_true, h2, if_false]
  · simp only [h, if_false]
    by_cases h2 : n = p.length + s.loc.length
    · subst h2
      simp
    · simp only [h2, if_false]
      by_cases h3 : n - p.length < s.loc.length
      · rw [List.getElem?_append_left h3]
      · have h4 : s.loc.length < n - p.length := by omega
        rw [List.getElem?_append_right (by omega), List.getElem?_eq_none (by simp; omega), List.getElem?_eq_none (by omega)]

theorem rd_wr {p : Hh} {s : S} {o : Ob} {n m : Nat} (hn : n < nxt p s) : rd p (wr p s n o) m = if m = n then some o else rd p s m := by
  unfold nxt at hn
  unfold rd wr
  by_cases h : n < p.length
  · simp only [h, if_true]
    by_cases hm : m < p.length
    · simp only [hm, if_true, lookN_put]
      by_cases e : m = n <;> simp [e]
    · have : m ≠ n := by omega
      simp only [hm, if_false, this]
  · simp only [h, if_false]
    by_cases hm : m < p.length
    · have : m ≠ n := by omega
      simp only [hm, if_true, this, if_false]
    · simp only [hm, if_false]
      by_cases e : m = n
      · subst e
        rw [List.getElem?_set_self (by omega)]
        simp
      · rw [List.getElem?_set_ne (by omega)]
        simp [e]
theorem nxt_wr {p : Hh} {s : S} {o : Ob} {n : Nat} : nxt p (wr p s n o) = nxt p s := by
  unfold nxt wr
  split
  · rfl
  · simp
theorem nxt_al {p : Hh} {s : S} {o : Ob} : nxt p (al s o) = nxt p s + 1 := by
  unfold nxt al
  simp; omega

/-- from (ρ, H) to (ρ', H'): cells added, what is no cell stands -/
structure Ex (ρ : List Addr) (H : Hp) (ρ' : List Addr) (H' : Hp) : Prop where
  pre : ∃ l, ρ' = ρ ++ l
  new : ∀ a, a ∈ ρ' → a ∉ ρ → H a = none
  keep : ∀ a o, a ∉ ρ → H a = some o → H' a = some o
theorem Ex.rfl' {ρ : List Addr} {H : Hp} : Ex ρ H ρ H := ⟨⟨[], by simp⟩, fun _ h n => absurd h n, fun _ _ _ h => h⟩
theorem Ex.trans {ρ ρ1 ρ2 : List Addr} {H H1 H2 : Hp} (x : Ex ρ H ρ1 H1) (y : Ex ρ1 H1 ρ2 H2) : Ex ρ H ρ2 H2 := by
  have nin : ∀ a o, a ∉ ρ → H a = some o → a ∉ ρ1 := fun a o na h m => by
    rw [x.new a m na] at h; cases h
  refine ⟨?_, fun a h n => ?_, fun a o n h => y.keep a o (nin a o n h) (x.keep a o n h)⟩
  · obtain ⟨l, rfl⟩ := x.pre
    obtain ⟨l', rfl⟩ := y.pre
    exact ⟨l ++ l', by simp⟩
  · by_cases h1 : a ∈ ρ1
    · exact x.new a h1 n
    · have z := y.new a h h1
      cases e : H a with
      | none => rfl
      | some o => rw [x.keep a o n e] at z; cases z
theorem Ex.nin {ρ ρ1 : List Addr} {H H1 : Hp} (x : Ex ρ H ρ1 H1) {a : Addr} {o : HO} (n : a ∉ ρ) (h : H a = some o) : a ∉ ρ1 := fun m => by
  rw [x.new a m n] at h; cases h
theorem Ex.get {ρ ρ1 : List Addr} {H H1 : Hp} (x : Ex ρ H ρ1 H1) {n : Nat} {a : Addr} (h : ρ[n]? = some a) : ρ1[n]? = some a := by
  obtain ⟨l, rfl⟩ := x.pre
  rw [List.getElem?_append_left (List.getElem?_eq_some_iff.mp h).1]
  exact h

/-! ### classes of the text -/
/-- the address of a class by its number, the names of its fields (of an exception: its one field) -/
structure GE where
  cls : Nat → Addr
  fld : Nat → List Str
  /-- what else holds of the slots (in an except suite: of the exception; the slot that holds it is not written) -/
  J : List Addr → L2.St → Hp → Prop
  jm : ∀ {ρ ρ1 : List Addr} {H H1 : Hp} {σ : L2.St}, Ex ρ H ρ1 H1 → J ρ σ H → J ρ1 σ H1
  hold : Option Nat
  js : ∀ {ρ : List Addr} {H : Hp} {σ : L2.St} (i : Nat) (o : Option V), hold ≠ some i → J ρ σ H → J ρ (σ.set i o) H
/-- nothing else -/
def GE.of (cls : Nat → Addr) (fld : Nat → List Str) : GE := ⟨cls, fld, fun _ _ _ => True, fun _ _ => True.intro, none, fun _ _ _ _ => True.intro⟩

/-! ### values -/
mutual
inductive RV (G : GE) (ρ : List Addr) (H : Hp) : W → V → Prop
  | non : RV G ρ H .non .non
  | bl (b : Bool) : RV G ρ H (.bl b) (.bl b)
  | int (i : Int) : RV G ρ H (.int i) (.int i)
  | str (z : Str) : RV G ρ H (.str z) (.str z)
  | ref {n : Nat} {a : Addr} (h : ρ[n]? = some a) : RV G ρ H (.ref n) (.ref a)
  | tup {a : Addr} {ws : List W} {vs : List V} (na : a ∉ ρ) (h : H a = some (.tup vs)) (r : RVs G ρ H ws vs) : RV G ρ H (.tup ws) (.ref a)
inductive RVs (G : GE) (ρ : List Addr) (H : Hp) : List W → List V → Prop
  | nil : RVs G ρ H [] []
  | cons {w : W} {v : V} {ws : List W} {vs : List V} (h : RV G ρ H w v) (r : RVs G ρ H ws vs) : RVs G ρ H (w :: ws) (v :: vs)
end

mutual
theorem RV.mono {G : GE} {ρ ρ1 : List Addr} {H H1 : Hp} (x : Ex ρ H ρ1 H1) : ∀ {w : W} {v : V}, RV G ρ H w v → RV G ρ1 H1 w v
  | _, _, .non => .non
  | _, _, .bl b => .bl b
  | _, _, .int i => .int i
  | _, _, .str z => .str z
  | _, _, .ref h => .ref (x.get h)
  | _, _, .tup na h r => .tup (x.nin na h) (x.keep _ _ na h) (RVs.mono x r)
theorem RVs.mono {G : GE} {ρ ρ1 : List Addr} {H H1 : Hp} (x : Ex ρ H ρ1 H1) : ∀ {ws : List W} {vs : List V}, RVs G ρ H ws vs → RVs G ρ1 H1 ws vs
  | _, _, .nil => .nil
  | _, _, .cons h r => .cons (RV.mono x h) (RVs.mono x r)
end

section
variable {G : GE} {ρ : List Addr} {H : Hp}
theorem RVs.len : ∀ {ws : List W} {vs : List V}, RVs G ρ H ws vs → ws.length = vs.length
  | _, _, .nil => rfl
  | _, _, .cons _ r => by simp [RVs.len r]
theorem RVs.get : ∀ {ws : List W} {vs : List V} {i : Nat} {w : W}, RVs G ρ H ws vs → ws[i]? = some w → ∃ v, vs[i]? = some v ∧ RV G ρ H w v
  | _, _, _, _, .nil, e => by simp at e
  | _, _, 0, _, .cons h _, e => by simp at e; subst e; exact ⟨_, rfl, h⟩
  | _, _, i + 1, _, .cons _ r, e => by
    obtain ⟨v, h1, h2⟩ := RVs.get (i := i) r (by simpa using e)
    exact ⟨v, by simpa using h1, h2⟩
theorem RVs.get' : ∀ {ws : List W} {vs : List V} {i : Nat} {v : V}, RVs G ρ H ws vs → vs[i]? = some v → ∃ w, ws[i]? = some w ∧ RV G ρ H w v
  | _, _, _, _, .nil, e => by simp at e
  | _, _, 0, _, .cons h _, e => by simp at e; subst e; exact ⟨_, rfl, h⟩
  | _, _, i + 1, _, .cons _ r, e => by
    obtain ⟨v, h1, h2⟩ := RVs.get' (i := i) r (by simpa using e)
    exact ⟨v, by simpa using h1, h2⟩
theorem RVs.app : ∀ {ws ws' : List W} {vs vs' : List V}, RVs G ρ H ws vs → RVs G ρ H ws' vs' → RVs G ρ H (ws ++ ws') (vs ++ vs')
  | _, _, _, _, .nil, s => s
  | _, _, _, _, .cons h r, s => .cons h (RVs.app r s)
theorem RVs.take : ∀ {ws : List W} {vs : List V} (n : Nat), RVs G ρ H ws vs → RVs G ρ H (ws.take n) (vs.take n)
  | _, _, 0, _ => by simp; exact .nil
  | _, _, _ + 1, .nil => .nil
  | _, _, n + 1, .cons h r => .cons h (RVs.take n r)
theorem RVs.drop : ∀ {ws : List W} {vs : List V} (n : Nat), RVs G ρ H ws vs → RVs G ρ H (ws.drop n) (vs.drop n)
  | _, _, 0, r => by simpa using r
  | _, _, _ + 1, .nil => .nil
  | _, _, n + 1, .cons _ r => RVs.drop n r
theorem RVs.set : ∀ {ws : List W} {vs : List V} (i : Nat) {w : W} {v : V}, RV G ρ H w v → RVs G ρ H ws vs → RVs G ρ H (ws.set i w) (vs.set i v)
  | _, _, _, _, _, _, .nil => .nil
  | _, _, 0, _, _, q, .cons _ r => .cons q r
  | _, _, i + 1, _, _, q, .cons h r => .cons h (RVs.set i q r)
theorem RVs.rev : ∀ {ws : List W} {vs : List V}, RVs G ρ H ws vs → RVs G ρ H ws.reverse vs.reverse
  | _, _, .nil => .nil
  | _, _, .cons h r => by
    simp only [List.reverse_cons]
    exact (RVs.rev r).app (.cons h .nil)
end

/-! ### cells -/
inductive RO (G : GE) (ρ : List Addr) (H : Hp) : Ob → HO → Prop
  | lst {ws : List W} {vs : List V} (r : RVs G ρ H ws vs) : RO G ρ H (.lst ws) (.lst vs)
  | frz {ns : List Int} {o : Obj} : RO G ρ H (.frz ns) (.frz o (.lst (ns.map V.int)))
  | dK {kvs : List (Key × W)} {ks : List (Key × V)} (r : kvs.map (·.1) = ks.map (·.1)) (r2 : RVs G ρ H (kvs.map (·.2)) (ks.map (·.2))) : RO G ρ H (.dct kvs) (.dK ks)
  | dT {kvs : List (List Key × W)} {ks : List (List Key × V)} (r : kvs.map (·.1) = ks.map (·.1)) (r2 : RVs G ρ H (kvs.map (·.2)) (ks.map (·.2))) : RO G ρ H (.dtt kvs) (.dT ks)
  | ins {c : Nat} {fs : List (Nat × W)} {gs : List (Str × V)} {dx : Addr} (k : fs.map (fun p => (G.fld c)[p.1]?) = gs.map (fun p => some p.1)) (r : RVs G ρ H (fs.map (·.2)) (gs.map (·.2))) : RO G ρ H (.ins c fs) (.ins (G.cls c) dx gs)
theorem RO.mono {G : GE} {ρ ρ1 : List Addr} {H H1 : Hp} (x : Ex ρ H ρ1 H1) {o : Ob} {u : HO} (r : RO G ρ H o u) : RO G ρ1 H1 o u := by
  cases r with
  | lst r => exact .lst (r.mono x)
  | frz => exact .frz
  | dK r r2 => exact .dK r (r2.mono x)
  | dT r r2 => exact .dT r (r2.mono x)
  | ins k r => exact .ins k (r.mono x)

structure Rep (G : GE) (ρ : List Addr) (p : Hh) (s : S) (H : Hp) : Prop where
  len : ρ.length = nxt p s
  nd : ρ.Nodup
  has : ∀ n o, rd p s n = some o → ∃ a u, ρ[n]? = some a ∧ H a = some u ∧ RO G ρ H o u

section
variable {G : GE} {ρ : List Addr} {H : Hp} {p : Hh} {s : S}
theorem Rep.at {n : Nat} {o : Ob} {a : Addr} (r : Rep G ρ p s H) (h : rd p s n = some o) (e : ρ[n]? = some a) : ∃ u, H a = some u ∧ RO G ρ H o u := by
  obtain ⟨b, u, e', q⟩ := r.has n o h
  rw [e] at e'; cases e'
  exact ⟨u, q⟩
theorem nodup_get {ρ : List Addr} (nd : ρ.Nodup) {n m : Nat} {a : Addr} (h : ρ[n]? = some a) (h' : ρ[m]? = some a) : n = m := by
  obtain ⟨h1, e1⟩ := List.getElem?_eq_some_iff.mp h
  obtain ⟨h2, e2⟩ := List.getElem?_eq_some_iff.mp h'
  exact (List.getElem_inj nd).mp (e1.trans e2.symm)
/-- a new cell -/
theorem Rep.alloc {q : Addr} {o : Ob} {u : HO} (r : Rep G ρ p s H) (hq : H q = none) (nq : ∀ n, ρ[n]? = some q → rd p s n ≠ none) (hu : RO G (ρ ++ [q]) (upd H q u) o u) : Ex ρ H (ρ ++ [q]) (upd H q u) ∧ Rep G (ρ ++ [q]) p (al s o) (upd H q u) ∧ RV G (ρ ++ [q]) (upd H q u) (.ref (nxt p s)) (.ref q) := by
  have nin : q ∉ ρ := fun m => by
    obtain ⟨n, h1, e⟩ := List.getElem_of_mem m
    have e' : ρ[n]? = some q := by rw [List.getElem?_eq_getElem h1, e]
    have z := nq n e'
    cases h : rd p s n with
    | none => exact z h
    | some o =>
      obtain ⟨a, u, e2, e3, _⟩ := r.has n o h
      rw [e'] at e2; cases e2
      rw [hq] at e3; cases e3
  have x : Ex ρ H (ρ ++ [q]) (upd H q u) := ⟨⟨[q], rfl⟩, fun a h n => by
    rcases List.mem_append.mp h with h | h
    · exact absurd h n
    · rw [List.mem_singleton.mp h]; exact hq, fun a o n h => by
    rw [upd_ne (fun e => by rw [e, hq] at h; cases h)]; exact h⟩
  refine ⟨x, ⟨by rw [List.length_append, r.len, nxt_al]; rfl, ?_, fun n o' h => ?_⟩, .ref (by rw [List.getElem?_append_right (by rw [r.len]; exact Nat.le_refl _), r.len]; simp)⟩
  · refine List.nodup_append.mpr ⟨r.nd, by simp, fun a ha b hb => ?_⟩
    rw [List.mem_singleton.mp hb]
    exact fun e => nin (e ▸ ha)
  · rw [rd_al] at h
    by_cases e : n = nxt p s
    · rw [if_pos e] at h
      cases h
      refine ⟨q, u, ?_, upd_same, hu⟩
      rw [List.getElem?_append_right (by rw [r.len, e]; exact Nat.le_refl _), r.len, e]
      simp
    · rw [if_neg e] at h
      obtain ⟨a, u', e1, e2, e3⟩ := r.has n o' h
      refine ⟨a, u', x.get e1, ?_, e3.mono x⟩
      rw [upd_ne (fun z => by rw [z, hq] at e2; cases e2)]
      exact e2
/-- all cells hold something -/
def Full (p : Hh) (s : S) : Prop := ∀ n, n < nxt p s → rd p s n ≠ none
theorem rd_full : Full p s := fun n hn => by
  unfold nxt at hn
  unfold rd
  by_cases h : n < p.length
  · rw [if_pos h]
    cases lookN n s.ov with
    | some o => intro z; cases z
    | none =>
      show p[n]? ≠ none
      rw [List.getElem?_eq_getElem h]
      intro z; cases z
  · rw [if_neg h, List.getElem?_eq_getElem (show n - p.length < s.loc.length by omega)]
    intro z; cases z
theorem Rep.al_ {q : Addr} {o : Ob} {u : HO} (r : Rep G ρ p s H) (hq : H q = none) (hu : RO G (ρ ++ [q]) (upd H q u) o u) : Ex ρ H (ρ ++ [q]) (upd H q u) ∧ Rep G (ρ ++ [q]) p (al s o) (upd H q u) ∧ RV G (ρ ++ [q]) (upd H q u) (.ref (nxt p s)) (.ref q) :=
  r.alloc hq (fun n e => rd_full n (by rw [← r.len]; exact (List.getElem?_eq_some_iff.mp e).1)) hu
theorem Rep.ref_none {q : Addr} (r : Rep G ρ p s H) (hq : H q = none) : q ∉ ρ := fun m => by
  obtain ⟨n, h1, e⟩ := List.getElem_of_mem m
  have e' : ρ[n]? = some q := by rw [List.getElem?_eq_getElem h1, e]
  cases h : rd p s n with
  | none => exact rd_full n (by rw [← r.len]; exact h1) h
  | some o =>
    obtain ⟨a, u, e2, e3, _⟩ := r.has n o h
    rw [e'] at e2; cases e2
    rw [hq] at e3; cases e3
theorem Ex.al {q : Addr} {u : HO} (r : Rep G ρ p s H) (hq : H q = none) : Ex ρ H (ρ ++ [q]) (upd H q u) := ⟨⟨[q], rfl⟩, fun a h n => by
  rcases List.mem_append.mp h with h | h
  · exact absurd h n
  · rw [List.mem_singleton.mp h]; exact hq, fun a o n h => by
  have nb : a ≠ q := fun e => by rw [e, hq] at h; cases h
  rw [upd_ne nb]; exact h⟩
/-- an object that is no cell -/
theorem Ex.fresh {q : Addr} {u : HO} (r : Rep G ρ p s H) (hq : H q = none) : Ex ρ H ρ (upd H q u) :=
  ⟨⟨[], by simp⟩, fun _ h n => absurd h n, fun a o n h => by rw [upd_ne (fun e => by rw [e, hq] at h; cases h)]; exact h⟩
theorem Rep.mono {H1 : Hp} (r : Rep G ρ p s H) (x : Ex ρ H ρ H1) (k : ∀ a, a ∈ ρ → H1 a = H a) : Rep G ρ p s H1 :=
  ⟨r.len, r.nd, fun n o h => by
    obtain ⟨a, u, e1, e2, e3⟩ := r.has n o h
    exact ⟨a, u, e1, by rw [k a (List.mem_of_getElem? e1)]; exact e2, e3.mono x⟩⟩
theorem Rep.fresh {q : Addr} {u : HO} (r : Rep G ρ p s H) (hq : H q = none) : Rep G ρ p s (upd H q u) :=
  r.mono (Ex.fresh r hq) fun a ha => upd_ne (fun e => r.ref_none hq (e ▸ ha))
/-- a cell written -/
theorem Rep.wr_ {n : Nat} {a : Addr} {o : Ob} {u : HO} (r : Rep G ρ p s H) (e : ρ[n]? = some a) (hu : RO G ρ (upd H a u) o u) : Ex ρ H ρ (upd H a u) ∧ Rep G ρ p (wr p s n o) (upd H a u) := by
  have ma : a ∈ ρ := List.mem_of_getElem? e
  have x : Ex ρ H ρ (upd H a u) := ⟨⟨[], by simp⟩, fun _ h n => absurd h n, fun b o n h => by
    have nb : b ≠ a := fun z => n (by rw [z]; exact ma)
    rw [upd_ne nb]; exact h⟩
  have hn : n < nxt p s := by rw [← r.len]; exact (List.getElem?_eq_some_iff.mp e).1
  refine ⟨x, ⟨by rw [nxt_wr]; exact r.len, r.nd, fun m o' h => ?_⟩⟩
  rw [rd_wr hn] at h
  by_cases em : m = n
  · rw [if_pos em] at h
    cases h
    exact ⟨a, u, by rw [em]; exact e, upd_same, hu⟩
  · rw [if_neg em] at h
    obtain ⟨b, u', e1, e2, e3⟩ := r.has m o' h
    have nb : b ≠ a := fun z => em (nodup_get r.nd e1 (by rw [z]; exact e))
    exact ⟨b, u', e1, by rw [upd_ne nb]; exact e2, e3.mono x⟩
end

/-! ### the slots -/
structure RL (G : GE) (ρ : List Addr) (H : Hp) (l : Lo) (σ : L2.St) : Prop where
  len : l.length = σ.length
  has : ∀ (i : Nat) (w : W), l[i]? = some (some w) → ∃ v, σ[i]? = some (some v) ∧ RV G ρ H w v
  inv : G.J ρ σ H
section
variable {G : GE} {ρ ρ1 : List Addr} {H H1 : Hp} {l : Lo} {σ : L2.St}
theorem RL.mono (r : RL G ρ H l σ) (x : Ex ρ H ρ1 H1) : RL G ρ1 H1 l σ := ⟨r.len, fun i w e => by
  obtain ⟨v, h1, h2⟩ := r.has i w e
  exact ⟨v, h1, h2.mono x⟩, G.jm x r.inv⟩
theorem RL.set {w : W} {v : V} (r : RL G ρ H l σ) (i : Nat) (h : RV G ρ H w v) (hh : G.hold ≠ some i) : RL G ρ H (l.set i (some w)) (σ.set i (some v)) := ⟨by simp [r.len], fun j w' e => by
  by_cases hj : i = j
  · subst hj
    by_cases hi : i < l.length
    · rw [List.getElem?_set_self hi] at e
      cases e
      exact ⟨v, List.getElem?_set_self (by rw [← r.len]; exact hi), h⟩
    · rw [List.getElem?_eq_none (by simpa using hi)] at e
      cases e
  · rw [List.getElem?_set_ne hj] at e
    obtain ⟨v', h1, h2⟩ := r.has j w' e
    exact ⟨v', by rw [List.getElem?_set_ne hj]; exact h1, h2⟩, G.js i _ hh r.inv⟩
theorem RL.delσ (r : RL G ρ H l σ) (i : Nat) (hh : G.hold ≠ some i) : RL G ρ H (l.set i none) (σ.set i none) := ⟨by simp [r.len], fun j w' e => by
  by_cases hj : i = j
  · subst hj
    by_cases hi : i < l.length
    · rw [List.getElem?_set_self hi] at e; cases e
    · rw [List.getElem?_eq_none (by simpa using hi)] at e; cases e
  · rw [List.getElem?_set_ne hj] at e
    obtain ⟨v', h1, h2⟩ := r.has j w' e
    exact ⟨v', by rw [List.getElem?_set_ne hj]; exact h1, h2⟩, G.js i _ hh r.inv⟩
end

/-! ### what is promised of a result -/
/-- an exception of the class c with its field's value w -/
def RX (G : GE) (ρ : List Addr) (H : Hp) (c : Nat) (w : W) (d : Option Addr) : Prop :=
  match (G.fld c).head? with
  | none => True
  | some f => ∃ dd v, d = some dd ∧ dd ∉ ρ ∧ H dd = some (.xd [(f, v)]) ∧ RV G ρ H w v
theorem RX.mono {G : GE} {ρ ρ1 : List Addr} {H H1 : Hp} {c : Nat} {w : W} {d : Option Addr} (x : Ex ρ H ρ1 H1) (r : RX G ρ H c w d) : RX G ρ1 H1 c w d := by
  unfold RX at *
  split
  · trivial
  · rename_i f hf
    rw [hf] at r
    obtain ⟨dd, v, e1, n, e2, q⟩ := r
    exact ⟨dd, v, e1, x.nin n e2, x.keep _ _ n e2, q.mono x⟩
section
variable (G : GE) (p : Hh) (ρ : List Addr) (H : Hp)
def PoA {α β : Type} (rel : List Addr → Hp → α → β → Prop) (r : R α) (Q : β → Hp → Prop) (E : XK) : Prop :=
  match r with
  | .ok w s' => ∀ ρ' H' v, Ex ρ H ρ' H' → Rep G ρ' p s' H' → rel ρ' H' w v → Q v H'
  | .exc c w s' => ∀ ρ' H' d, Ex ρ H ρ' H' → Rep G ρ' p s' H' → RX G ρ' H' c w d → E (.ref (G.cls c)) d H'
  | .bad => False
def PoV (r : R W) (Q : VK) (E : XK) : Prop := PoA G p ρ H (RV G) r Q E
def PoVs (r : R (List W)) (Q : List V → Hp → Prop) (E : XK) : Prop := PoA G p ρ H (RVs G) r Q E
def PoB (r : R Bool) (Q : Bool → Hp → Prop) (E : XK) : Prop := PoA G p ρ H (fun _ _ b c => b = c) r Q E
def PoS (r : RS) (D : Ends) (E : WX) : Prop :=
  match r with
  | .nx l s' => ∀ ρ' H' σ', Ex ρ H ρ' H' → Rep G ρ' p s' H' → RL G ρ' H' l σ' → D.nx σ' H'
  | .brk l s' => ∀ ρ' H' σ', Ex ρ H ρ' H' → Rep G ρ' p s' H' → RL G ρ' H' l σ' → D.bk σ' H'
  | .ct l s' => ∀ ρ' H' σ', Ex ρ H ρ' H' → Rep G ρ' p s' H' → RL G ρ' H' l σ' → D.ct σ' H'
  | .ret w s' => ∀ ρ' H' v, Ex ρ H ρ' H' → Rep G ρ' p s' H' → RV G ρ' H' w v → D.rt v H'
  | .exc c w l s' => ∀ ρ' H' d σ', Ex ρ H ρ' H' → Rep G ρ' p s' H' → RX G ρ' H' c w d → RL G ρ' H' l σ' → E (.ref (G.cls c)) d σ' H'
  | .bad => False
end
section
variable {G : GE} {p : Hh} {ρ ρ1 : List Addr} {H H1 : Hp}
theorem PoA.base {α β : Type} {rel : List Addr → Hp → α → β → Prop} {r : R α} {Q : β → Hp → Prop} {E : XK} (h : PoA G p ρ H rel r Q E) (x : Ex ρ H ρ1 H1) : PoA G p ρ1 H1 rel r Q E := by
  cases r with
  | ok w s' => exact fun ρ' H' v y => h ρ' H' v (x.trans y)
  | exc c w s' => exact fun ρ' H' d y => h ρ' H' d (x.trans y)
  | bad => exact h
theorem PoS.base {r : RS} {D : Ends} {E : WX} (h : PoS G p ρ H r D E) (x : Ex ρ H ρ1 H1) : PoS G p ρ1 H1 r D E := by
  cases r with
  | nx l s' => exact fun ρ' H' v y => h ρ' H' v (x.trans y)
  | brk l s' => exact fun ρ' H' v y => h ρ' H' v (x.trans y)
  | ct l s' => exact fun ρ' H' v y => h ρ' H' v (x.trans y)
  | ret l s' => exact fun ρ' H' v y => h ρ' H' v (x.trans y)
  | exc c w l s' => exact fun ρ' H' d σ' y => h ρ' H' d σ' (x.trans y)
  | bad => exact h
theorem PoA.imp {α β : Type} {rel : List Addr → Hp → α → β → Prop} {r : R α} {Q Q' : β → Hp → Prop} {E E' : XK} (h : PoA G p ρ H rel r Q E) (hq : ∀ v H, Q v H → Q' v H) (he : ∀ c d H, E c d H → E' c d H) : PoA G p ρ H rel r Q' E' := by
  cases r with
  | ok w s' => exact fun ρ' H' v y a b => hq _ _ (h ρ' H' v y a b)
  | exc c w s' => exact fun ρ' H' d y a b => he _ _ _ (h ρ' H' d y a b)
  | bad => exact h
end

def R.bind {α β : Type} (r : R α) (k : α → S → R β) : R β :=
  match r with
  | .ok a s => k a s
  | .exc c w s => .exc c w s
  | .bad => .bad
/-- the way of a bind: what is to be shown of the second part where the first ended -/
theorem PoA.bind {G : GE} {p : Hh} {ρ : List Addr} {H : Hp} {α β α' β' : Type} {rel : List Addr → Hp → α → β → Prop} {rel' : List Addr → Hp → α' → β' → Prop} {r : R α} {k : α → S → R α'} {Q : β → Hp → Prop} {Q' : β' → Hp → Prop} {E : XK}
    (h : PoA G p ρ H rel' (r.bind k) Q' E) (hk : ∀ a s' ρ' H' v, Ex ρ H ρ' H' → Rep G ρ' p s' H' → rel ρ' H' a v → PoA G p ρ' H' rel' (k a s') Q' E → Q v H') : PoA G p ρ H rel r Q E := by
  cases r with
  | ok a s => exact fun ρ' H' v x y z => hk a s ρ' H' v x y z (PoA.base h x)
  | exc c w s => exact h
  | bad => exact h
end CC
set_option Elab.async false
set_option linter.all false
set_option maxRecDepth 100000
/-! CCRen: a call is given all cells, by their numbers -/
namespace CC
open PySem PySem.Spec PyProof.Rows L2

/-- all cells as one list -/
def mat (p : Hh) (s : S) : Hh := (List.range (nxt p s)).map fun n => (rd p s n).getD (.lst [])
/-- a list of all cells, over the given ones p -/
def setAll (p full : Hh) : S := ⟨(List.range p.length).map fun n => (n, full.getD n (.lst [])), full.drop p.length⟩
theorem mat_len {p : Hh} {s : S} : (mat p s).length = nxt p s := by simp [mat]
theorem rd_lt {p : Hh} {s : S} {m : Nat} {o : Ob} (h : rd p s m = some o) : m < nxt p s := by
  unfold rd at h
  unfold nxt
  by_cases e : m < p.length
  · omega
  · rw [if_neg e] at h
    have := (List.getElem?_eq_some_iff.mp h).1
    omega
theorem rd_some {p : Hh} {s : S} {m : Nat} (h : m < nxt p s) : ∃ o, rd p s m = some o := by
  cases e : rd p s m with
  | none => exact absurd e (rd_full m h)
  | some o => exact ⟨o, rfl⟩
theorem rd_none {p : Hh} {s : S} {m : Nat} (h : ¬ m < nxt p s) : rd p s m = none := by
  cases e : rd p s m with
  | none => rfl
  | some o => exact absurd (rd_lt e) h
theorem mat_get {p : Hh} {s : S} {n : Nat} : (mat p s)[n]? = rd p s n := by
  by_cases h : n < nxt p s
  · obtain ⟨o, ho⟩ := rd_some h
    rw [ho]
    unfold mat
    rw [List.getElem?_map, List.getElem?_range h]
    simp [ho]
  · rw [rd_none h, List.getElem?_eq_none (by rw [mat_len]; omega)]
theorem rd_mat {p : Hh} {s : S} {n : Nat} : rd (mat p s) ⟨[], []⟩ n = rd p s n := by
  unfold rd
  by_cases h : n < (mat p s).length
  · rw [if_pos h]
    show (mat p s)[n]? = _
    rw [mat_get]; rfl
  · rw [if_neg h]
    rw [mat_len] at h
    have := rd_none h
    unfold rd at this
    rw [this]
    simp
theorem lookN_rng {f : Nat → Ob} {n : Nat} : ∀ {k i : Nat}, lookN n ((List.range' i k).map fun m => (m, f m)) = if i ≤ n ∧ n < i + k then some (f n) else none
  | 0, i => by
    rw [if_neg (by omega)]; rfl
  | k + 1, i => by
    rw [List.range'_succ]
    simp only [List.map_cons, lookN]
    by_cases e : n = i
    · subst e
      rw [if_pos rfl, if_pos (by omega)]
    · rw [if_neg e, lookN_rng]
      by_cases h : i + 1 ≤ n ∧ n < i + 1 + k
      · rw [if_pos h, if_pos (by omega)]
      · rw [if_neg h, if_neg (by omega)]
theorem nxt_setAll {p full : Hh} (h : p.length ≤ full.length) : nxt p (setAll p full) = full.length := by
  unfold nxt setAll
  simp; omega
theorem rd_setAll {p full : Hh} (h : p.length ≤ full.length) {n : Nat} : rd p (setAll p full) n = full[n]? := by
  unfold rd setAll
  dsimp only
  by_cases e : n < p.length
  · rw [if_pos e, List.range_eq_range', lookN_rng, if_pos (by omega)]
    dsimp only
    rw [List.getElem?_eq_getElem (by omega)]
    simp [List.getD, List.getElem?_eq_getElem (show n < full.length by omega)]
  · rw [if_neg e, List.getElem?_drop]
    congr 1
    omega
/-- the caller's cells behind the call -/
def mrg (p : Hh) (s s' : S) : S := setAll p (mat (mat p s) s')
theorem le_mrg {p : Hh} {s s' : S} : p.length ≤ (mat (mat p s) s').length := by
  rw [mat_len]
  unfold nxt
  rw [mat_len]
  unfold nxt
  omega
theorem nxt_mrg {p : Hh} {s s' : S} : nxt p (mrg p s s') = nxt (mat p s) s' := by
  unfold mrg
  rw [nxt_setAll le_mrg, mat_len]
theorem rd_mrg {p : Hh} {s s' : S} {n : Nat} : rd p (mrg p s s') n = rd (mat p s) s' n := by
  unfold mrg
  rw [rd_setAll le_mrg, mat_get]
def callF (F : Hh → List W → R W) (p : Hh) (xs : List W) (s : S) : R W := match F (mat p s) xs with
  | .ok w s' => .ok w (mrg p s s')
  | .exc c w s' => .exc c w (mrg p s s')
  | .bad => .bad
end CC
set_option Elab.async false
set_option linter.all false
set_option maxRecDepth 100000
/-! CCRules: expressions, tests, arguments, statements, loops, comprehensions, calls -/
namespace CC
open PySem PySem.Spec PyProof.Rows L2

/-! ### primitive results -/
abbrev O2 := Option (W × S)
def R.ofO : O2 → R W
  | some (w, s) => .ok w s
  | none => .bad
def PoO (G : GE) (p : Hh) (ρ : List Addr) (H : Hp) (r : O2) (Q : VK) : Prop :=
  match r with
  | some (w, s') => ∀ ρ' H' v, Ex ρ H ρ' H' → Rep G ρ' p s' H' → RV G ρ' H' w v → Q v H'
  | none => False
theorem po_of {G : GE} {p : Hh} {ρ : List Addr} {H : Hp} {r : O2} {Q : VK} {E : XK} (h : PoV G p ρ H (R.ofO r) Q E) : PoO G p ρ H r Q := by
  cases r with
  | none => exact h
  | some q => obtain ⟨w, s⟩ := q; exact h
/-- a primitive value, nothing changed -/
theorem po_v {G : GE} {p : Hh} {ρ : List Addr} {H : Hp} {s : S} {w : W} {v : V} {Q : VK} (h : PoO G p ρ H (some (w, s)) Q) (r : Rep G ρ p s H) (q : RV G ρ H w v) : Q v H := h ρ H v Ex.rfl' r q

/-! ### judgements -/
section
variable (G : GE) (p : Hh) (E : WX)
def tI (m : Lo → S → R W) : TE := fun σ H Q => ∃ ρ l s, RL G ρ H l σ ∧ Rep G ρ p s H ∧ PoV G p ρ H (m l s) Q (fun c d H' => E c d σ H')
def tT (m : Lo → S → R Bool) : TT := fun σ H Q => ∃ ρ l s, RL G ρ H l σ ∧ Rep G ρ p s H ∧ PoB G p ρ H (m l s) Q (fun c d H' => E c d σ H')
def tA (m : Lo → S → R (List W)) : TA := fun σ H Q => ∃ ρ l s, RL G ρ H l σ ∧ Rep G ρ p s H ∧ PoVs G p ρ H (m l s) Q (fun c d H' => E c d σ H')
def tS (m : Lo → S → RS) : TS := fun D σ H => ∃ ρ l s, RL G ρ H l σ ∧ Rep G ρ p s H ∧ PoS G p ρ H (m l s) D E
def PoG (ρ : List Addr) (H : Hp) (r : Option (Lo × S)) (Q : L2.St → Hp → Prop) : Prop := match r with
  | some (l, s') => ∀ ρ' H' σ', Ex ρ H ρ' H' → Rep G ρ' p s' H' → RL G ρ' H' l σ' → Q σ' H'
  | none => False
def tG (m : W → Lo → S → Option (Lo × S)) : TG := fun v σ H Q => ∃ ρ l s w, RL G ρ H l σ ∧ Rep G ρ p s H ∧ RV G ρ H w v ∧ PoG G p ρ H (m w l s) Q
def tGs (m : List W → Lo → S → Option (Lo × S)) : TGs := fun vs σ H Q => ∃ ρ l s ws, RL G ρ H l σ ∧ Rep G ρ p s H ∧ RVs G ρ H ws vs ∧ PoG G p ρ H (m ws l s) Q
variable (X : Cx)
def SE (e : Expr) (m : Lo → S → R W) : Prop := PE X e (tI G p E m)
def ST (e : Expr) (m : Lo → S → R Bool) : Prop := PT X e (tT G p E m)
def SW (e : Expr) (m : Lo → S → R Bool) : Prop := PW X e (tT G p E m)
def SA (es : List Expr) (m : Lo → S → R (List W)) : Prop := PA X es (tA G p E m)
def SS (st : Stmt) (m : Lo → S → RS) : Prop := PS X st (tS G p E m)
def SB (st : List Stmt) (m : Lo → S → RS) : Prop := PSs X st (tS G p E m)
def SG (tg : Expr) (m : W → Lo → S → Option (Lo × S)) : Prop := PG X tg (tG G p m)
def SGs (tgs : List Expr) (m : List W → Lo → S → Option (Lo × S)) : Prop := PGs X tgs (tGs G p m)
end
/-- the context -/
structure Cn (X : Cx) (E : WX) (k : Nat) : Prop where
  calm : X.calm = true
  room : Room k X.A
  tk : Takes X E
  own : PassesOwn (model X.prog X.w) X.A X.env X.xe
  nd : X.N.Nodup
  gd : X.A.guards = some []

section
variable {X : Cx}
theorem PE_imp {e : Expr} {t t' : TE} (h : PE X e t) (i : ∀ σ H Q, t' σ H Q → t σ H Q) : PE X e t' := ⟨fun pins s σ H Q I w => h.run pins s σ H Q I (i σ H Q w)⟩
theorem PT_imp {e : Expr} {t t' : TT} (h : PT X e t) (i : ∀ σ H Q, t' σ H Q → t σ H Q) : PT X e t' := ⟨fun pins s σ H Q I w => h.run pins s σ H Q I (i σ H Q w)⟩
theorem PW_imp {e : Expr} {t t' : TT} (h : PW X e t) (i : ∀ σ H Q, t' σ H Q → t σ H Q) : PW X e t' := ⟨fun wh pins s σ H Q I w => h.run wh pins s σ H Q I (i σ H Q w)⟩
theorem PA_imp {es : List Expr} {t t' : TA} (h : PA X es t) (i : ∀ σ H Q, t' σ H Q → t σ H Q) : PA X es t' := ⟨fun pos pins s σ H Q I w => h.run pos pins s σ H Q I (i σ H Q w)⟩
theorem PS_imp {e : Stmt} {t t' : TS} (h : PS X e t) (i : ∀ D σ H, t' D σ H → t D σ H) : PS X e t' := ⟨fun pins s σ H D I w => h.run pins s σ H D I (i D σ H w)⟩
theorem PSs_imp {e : List Stmt} {t t' : TS} (h : PSs X e t) (i : ∀ D σ H, t' D σ H → t D σ H) : PSs X e t' := ⟨fun pins s σ H D I w => h.run pins s σ H D I (i D σ H w)⟩
theorem PG_imp {e : Expr} {t t' : TG} (h : PG X e t) (i : ∀ v σ H Q, t' v σ H Q → t v σ H Q) : PG X e t' := ⟨fun pins s σ H v u Q I r w => h.run pins s σ H v u Q I r (i v σ H Q w)⟩
theorem PGs_imp {e : List Expr} {t t' : TGs} (h : PGs X e t) (i : ∀ v σ H Q, t' v σ H Q → t v σ H Q) : PGs X e t' := ⟨fun pins s σ H v u Q I r w => h.run pins s σ H v u Q I r (i v σ H Q w)⟩
end

/-! ### mirrors of expressions -/
def eVar (i : Nat) : Lo → S → R W := fun l s => match l[i]? with
  | some (some w) => .ok w s
  | _ => .bad
def eC (w : W) : Lo → S → R W := fun _ s => .ok w s
def eBin (f : Hh → W → W → S → O2) (p : Hh) (ma mb : Lo → S → R W) : Lo → S → R W := fun l s => (ma l s).bind fun x s1 => (mb l s1).bind fun y s2 => R.ofO (f p x y s2)
def eUn (f : Hh → W → S → O2) (p : Hh) (ma : Lo → S → R W) : Lo → S → R W := fun l s => (ma l s).bind fun x s1 => R.ofO (f p x s1)
def aNil : Lo → S → R (List W) := fun _ s => .ok [] s
def aCons (ma : Lo → S → R W) (mr : Lo → S → R (List W)) : Lo → S → R (List W) := fun l s => (ma l s).bind fun x s1 => (mr l s1).bind fun xs s2 => .ok (x :: xs) s2
def eTup (mr : Lo → S → R (List W)) : Lo → S → R W := fun l s => (mr l s).bind fun xs s1 => if xs.length ≤ 1000000 then .ok (.tup xs) s1 else .bad
def eLst (p : Hh) (mr : Lo → S → R (List W)) : Lo → S → R W := fun l s => (mr l s).bind fun xs s1 => if xs.length ≤ 1000000 then .ok (.ref (nxt p s1)) (al s1 (.lst xs)) else .bad
/-- a built-in by its rule on values -/
def eB (f : Hh → List W → S → O2) (p : Hh) (mr : Lo → S → R (List W)) : Lo → S → R W := fun l s => (mr l s).bind fun xs s1 => R.ofO (f p xs s1)
/-- f(e, ..), ds the defaults that fill up -/
def eCall (F : Hh → List W → R W) (p : Hh) (ds : List W) (mr : Lo → S → R (List W)) : Lo → S → R W := fun l s => (mr l s).bind fun xs s1 => callF F p (xs ++ ds) s1
/-- of the class c? -/
def isC (p : Hh) (s : S) (c : Nat) : W → Bool
  | .ref n => (match rd p s n with | some (.ins d _) => d == c | _ => false)
  | _ => false
/-- o.m(e, ..), o of the class c -/
def eMeth (c : Nat) (F : Hh → List W → R W) (p : Hh) (ds : List W) (mo : Lo → S → R W) (mr : Lo → S → R (List W)) : Lo → S → R W := fun l s => (mo l s).bind fun o s1 => match isC p s1 c o with
  | true => (mr l s1).bind fun xs s2 => callF F p (o :: (xs ++ ds)) s2
  | false => .bad
/-- an object that may change: a cell -/
def makeM (c : Nat) (F : Hh → List W → R W) (p : Hh) (xs : List W) (s : S) : R W := match callF F p (.ref (nxt p s) :: xs) (al s (.ins c [])) with
  | .ok .non s1 => .ok (.ref (nxt p s)) s1
  | .exc c w s => .exc c w s
  | _ => .bad
def eMakeM (c : Nat) (F : Hh → List W → R W) (p : Hh) (ds : List W) (mr : Lo → S → R (List W)) : Lo → S → R W := fun l s => (mr l s).bind fun xs s1 => makeM c F p (xs ++ ds) s1
def eIf (mt : Lo → S → R Bool) (ma mb : Lo → S → R W) : Lo → S → R W := fun l s => (mt l s).bind fun c s1 => match c with
  | true => ma l s1
  | false => mb l s1
def eAndV (ma mb : Lo → S → R W) : Lo → S → R W := fun l s => (ma l s).bind fun x s1 => match x with
  | .bl true => mb l s1
  | .bl false => .ok (.bl false) s1
  | _ => .bad
def eOrV (ma mb : Lo → S → R W) : Lo → S → R W := fun l s => (ma l s).bind fun x s1 => match x with
  | .bl false => mb l s1
  | .bl true => .ok (.bl true) s1
  | _ => .bad
def eNotV (ma : Lo → S → R W) : Lo → S → R W := fun l s => (ma l s).bind fun x s1 => match x with
  | .bl c => .ok (.bl (!c)) s1
  | _ => .bad
def tVal (ma : Lo → S → R W) : Lo → S → R Bool := fun l s => (ma l s).bind fun x s1 => match x with
  | .bl c => .ok c s1
  | _ => .bad
def tAndT (ma mb : Lo → S → R Bool) : Lo → S → R Bool := fun l s => (ma l s).bind fun c s1 => match c with
  | true => mb l s1
  | false => .ok false s1
def tOrT (ma mb : Lo → S → R Bool) : Lo → S → R Bool := fun l s => (ma l s).bind fun c s1 => match c with
  | false => mb l s1
  | true => .ok true s1
def tNotT (ma : Lo → S → R Bool) : Lo → S → R Bool := fun l s => (ma l s).bind fun c s1 => .ok (!c) s1
/-- a op b op' c -/
def eChain (f f' : Hh → W → W → S → O2) (p : Hh) (ma mb mc : Lo → S → R W) : Lo → S → R W := fun l s => (ma l s).bind fun x s1 => (mb l s1).bind fun y s2 => (R.ofO (f p x y s2)).bind fun z s3 => match z with
  | .bl true => (mc l s3).bind fun u s4 => R.ofO (f' p y u s4)
  | .bl false => .ok (.bl false) s3
  | _ => .bad

/-! ### mirrors of statements -/
def sNx : Lo → S → RS := fun l s => .nx l s
def sSeq (m k : Lo → S → RS) : Lo → S → RS := fun l s => match m l s with
  | .nx l1 s1 => k l1 s1
  | r => r
def R.toS (l : Lo) (r : R W) (k : W → S → RS) : RS := match r with
  | .ok w s => k w s
  | .exc c w s => .exc c w l s
  | .bad => .bad
def sEx (me : Lo → S → R W) : Lo → S → RS := fun l s => (me l s).toS l fun _ s1 => .nx l s1
def sRet (me : Lo → S → R W) : Lo → S → RS := fun l s => (me l s).toS l fun w s1 => .ret w s1
def sRetN : Lo → S → RS := fun _ s => .ret .non s
def sBrk : Lo → S → RS := fun l s => .brk l s
def sCt : Lo → S → RS := fun l s => .ct l s
abbrev OG := Option (Lo × S)
def nxO : OG → RS
  | some (l, s) => .nx l s
  | none => .bad
def sAsg (g : W → Lo → S → OG) (me : Lo → S → R W) : Lo → S → RS := fun l s => (me l s).toS l fun w s1 => nxO (g w l s1)
def gNm (i : Nat) : W → Lo → S → OG := fun w l s => some (l.set i (some w), s)
def sIf (mt : Lo → S → R Bool) (ma mb : Lo → S → RS) : Lo → S → RS := fun l s => match mt l s with
  | .ok true s1 => ma l s1
  | .ok false s1 => mb l s1
  | .exc c w s1 => .exc c w l s1
  | .bad => .bad
def sAug (f : Hh → W → W → S → O2) (p : Hh) (i : Nat) (me : Lo → S → R W) : Lo → S → RS := fun l s => match l[i]? with
  | some (some x) => (me l s).toS l fun y s1 => match f p x y s1 with
    | some (z, s2) => .nx (l.set i (some z)) s2
    | none => .bad
  | _ => .bad
def sPar2 (i j : Nat) (mr : Lo → S → R (List W)) : Lo → S → RS := fun l s => match mr l s with
  | .ok [x, y] s1 => .nx ((l.set i (some x)).set j (some y)) s1
  | .exc c w s1 => .exc c w l s1
  | _ => .bad
def gsNil : List W → Lo → S → OG := fun ws l s => match ws with
  | [] => some (l, s)
  | _ => none
def gsCons (g : W → Lo → S → OG) (r : List W → Lo → S → OG) : List W → Lo → S → OG := fun ws l s => match ws with
  | w :: ws' => (match g w l s with
    | some (l1, s1) => r ws' l1 s1
    | none => none)
  | _ => none
def gTupT (n : Nat) (r : List W → Lo → S → OG) : W → Lo → S → OG := fun w l s => match w with
  | .tup ws => if ws.length = n then r ws l s else none
  | _ => none
/-- o[i] = v by values -/
def gSubT (f : Hh → W → W → W → S → Option S) (p : Hh) (mo mi : Lo → S → R W) : W → Lo → S → OG := fun w l s => match mo l s with
  | .ok o s1 => (match mi l s1 with
    | .ok i s2 => (match f p o i w s2 with
      | some s3 => some (l, s3)
      | none => none)
    | _ => none)
  | _ => none

/-! ### rules -/
section
variable {G : GE} {p : Hh} {E : WX} {X : Cx} {k : Nat} {pos : Pos}
theorem se_var (i : Nat) {x : Str} (hN : X.N[i]? = some x := by rfl) (hv : Vis X.env.scope x := by first | exact Or.inl rfl | exact Or.inr (Or.inl rfl) | exact Or.inr (Or.inr rfl)) (hd : (x == ("__debug__" : Str)) = false := by decide)
    (hcd : (x == ("__classdict__" : Str)) = false := by decide) : SE G p E X (.Name x pos) (eVar i) :=
  PE_imp (pe_var hN hv hd hcd) fun σ H Q ⟨ρ, l, s, rl, rp, h⟩ => by
    unfold eVar at h
    cases e : l[i]? with
    | none => rw [e] at h; exact h.elim
    | some q => cases q with
      | none => rw [e] at h; exact h.elim
      | some w =>
        rw [e] at h
        obtain ⟨v, e1, r⟩ := rl.has i w e
        exact ⟨v, e1, h ρ H v Ex.rfl' rp r⟩
theorem se_of {e : Expr} {v : V} {w : W} (h : PE X e (tC v)) (r : ∀ ρ H, RV G ρ H w v) : SE G p E X e (eC w) :=
  PE_imp h fun σ H Q ⟨ρ, l, s, rl, rp, h⟩ => h ρ H v Ex.rfl' rp (r ρ H)
theorem se_int {i : Int} {j} : SE G p E X (.Constant (.int i) j pos) (eC (.int i)) := se_of pe_int fun _ _ => .int i
theorem se_bl {b : Bool} {j} : SE G p E X (.Constant (.bool b) j pos) (eC (.bl b)) := se_of pe_bl fun _ _ => .bl b
theorem se_non {j} : SE G p E X (.Constant .none j pos) (eC .non) := se_of pe_non fun _ _ => .non
theorem se_str {x : Str} {j} : SE G p E X (.Constant (.str x) j pos) (eC (.str x)) := se_of pe_str fun _ _ => .str x
theorem se_glob {x : Str} {u : Value} {v : V} {w : W} (hm : X.mg x = some u) (r : RelV v u) (q : ∀ ρ H, RV G ρ H w v) (hg : Gl X x := by rfl) (hd : (x == ("__debug__" : Str)) = false := by decide) : SE G p E X (.Name x pos) (eC w) :=
  se_of (pe_glob hg hm r hd) q

def OpI (G : GE) (X : Cx) (F : Value → Value → Sem Value) (f : Hh → W → W → S → O2) : Prop :=
  ∀ p, OpR X F (fun v u H Q => ∃ ρ s x y, Rep G ρ p s H ∧ RV G ρ H x v ∧ RV G ρ H y u ∧ PoO G p ρ H (f p x y s) Q)
def UnI (G : GE) (X : Cx) (F : Value → Sem Value) (f : Hh → W → S → O2) : Prop :=
  ∀ p, UnR X F (fun v H Q => ∃ ρ s x, Rep G ρ p s H ∧ RV G ρ H x v ∧ PoO G p ρ H (f p x s) Q)
def CallI (G : GE) (X : Cx) (F : Value) (f : Hh → List W → S → O2) : Prop :=
  ∀ p, CallR X F (fun vs H Q => ∃ ρ s xs, Rep G ρ p s H ∧ RVs G ρ H xs vs ∧ PoO G p ρ H (f p xs s) Q)

variable {a b c o i : Expr} {ma mb mc mo mi : Lo → S → R W} {es : List Expr} {mr : Lo → S → R (List W)}
theorem bin_way {f : Hh → W → W → S → O2} {σ : L2.St} {H : Hp} {Q : VK} (h : tI G p E (eBin f p ma mb) σ H Q) :
    tOp (fun v u H Q => ∃ ρ s x y, Rep G ρ p s H ∧ RV G ρ H x v ∧ RV G ρ H y u ∧ PoO G p ρ H (f p x y s) Q) (tI G p E ma) (tI G p E mb) σ H Q := by
  obtain ⟨ρ, l, s, rl, rp, h⟩ := h
  exact ⟨ρ, l, s, rl, rp, PoA.bind h fun x s1 ρ1 H1 v x1 rp1 rv1 h1 => ⟨ρ1, l, s1, rl.mono x1, rp1, PoA.bind h1 fun y s2 ρ2 H2 u x2 rp2 rv2 h2 => ⟨ρ2, s2, x, y, rp2, rv1.mono x2, rv2, po_of h2⟩⟩⟩
theorem se_bin {op : Operator} {f : Hh → W → W → S → O2} (ho : OpI G X (binaryOp op) f) (ha : SE G p E X a ma) (hb : SE G p E X b mb) : SE G p E X (.BinOp a op b pos) (eBin f p ma mb) :=
  PE_imp (pe_op (ho p) ha hb) fun σ H Q h => bin_way h
theorem se_cmp {op : CmpOp} {f : Hh → W → W → S → O2} (ho : OpI G X (compareOp op) f) (ha : SE G p E X a ma) (hb : SE G p E X b mb) (hm : behindInMarks op b = false := by first | rfl | exact nomark _) : SE G p E X (.Compare a [op] [b] pos) (eBin f p ma mb) :=
  PE_imp (pe_cmpR (ho p) ha hb hm) fun σ H Q h => bin_way h
theorem se_un {op : UnaryOp} {f : Hh → W → S → O2} (ho : UnI G X (unaryOp op) f) (ha : SE G p E X a ma) : SE G p E X (.UnaryOp op a pos) (eUn f p ma) :=
  PE_imp (pe_un (ho p) ha) fun σ H Q ⟨ρ, l, s, rl, rp, h⟩ => ⟨ρ, l, s, rl, rp, PoA.bind h fun x s1 ρ1 H1 v x1 rp1 rv1 h1 => ⟨ρ1, s1, x, rp1, rv1, po_of h1⟩⟩
/-- tests -/
theorem st_val (ha : SE G p E X a ma) (he : ∀ whole, isTrue a X.env whole = (do let v ← whole; standAt a.pos; holding [v] (truthy v)) := by intro _; rfl) : ST G p E X a (tVal ma) :=
  PT_imp (pt_val ha he) fun σ H Q ⟨ρ, l, s, rl, rp, h⟩ => ⟨ρ, l, s, rl, rp, PoA.bind h fun x s1 ρ1 H1 v x1 rp1 rv1 h1 => by
    cases rv1 <;> first | exact h1.elim | skip
    exact ⟨_, rfl, h1 ρ1 H1 _ Ex.rfl' rp1 rfl⟩⟩
theorem st_cmp {op : CmpOp} {f : Hh → W → W → S → O2} (ho : OpI G X (compareOp op) f) (ha : SE G p E X a ma) (hb : SE G p E X b mb) (hm : behindInMarks op b = false := by first | rfl | exact nomark _) : ST G p E X (.Compare a [op] [b] pos) (tVal (eBin f p ma mb)) :=
  PT_imp (pt_cmpR (ho p) ha hb hm) fun σ H Q ⟨ρ, l, s, rl, rp, h⟩ => by
    refine bin_way (E := E) ⟨ρ, l, s, rl, rp, ?_⟩
    refine PoA.bind h fun x s1 ρ1 H1 v x1 rp1 rv1 h1 => ?_
    cases rv1 <;> first | exact h1.elim | skip
    exact ⟨_, rfl, h1 ρ1 H1 _ Ex.rfl' rp1 rfl⟩
theorem chain_way {f f' : Hh → W → W → S → O2} {σ : L2.St} {H : Hp} {Q : VK} (h : tI G p E (eChain f f' p ma mb mc) σ H Q) :
    tChain (fun v u H Q => ∃ ρ s x y, Rep G ρ p s H ∧ RV G ρ H x v ∧ RV G ρ H y u ∧ PoO G p ρ H (f p x y s) Q) (fun v u H Q => ∃ ρ s x y, Rep G ρ p s H ∧ RV G ρ H x v ∧ RV G ρ H y u ∧ PoO G p ρ H (f' p x y s) Q) (tI G p E ma) (tI G p E mb) (tI G p E mc) σ H Q := by
  obtain ⟨ρ, l, s, rl, rp, h⟩ := h
  refine ⟨ρ, l, s, rl, rp, PoA.bind h fun x s1 ρ1 H1 v x1 rp1 rv1 h1 => ⟨ρ1, l, s1, rl.mono x1, rp1, PoA.bind h1 fun y s2 ρ2 H2 u x2 rp2 rv2 h2 => ⟨ρ2, s2, x, y, rp2, rv1.mono x2, rv2, po_of (E := fun c d H' => E c d σ H') (PoA.bind h2 fun z s3 ρ3 H3 t x3 rp3 rv3 h3 => ?_)⟩⟩⟩
  cases rv3 <;> first | exact h3.elim | skip
  rename_i bb
  cases bb with
  | false => exact ⟨false, rfl, h3 ρ3 H3 _ Ex.rfl' rp3 (.bl false)⟩
  | true => exact ⟨true, rfl, ρ3, l, s3, ((rl.mono x1).mono x2).mono x3, rp3, PoA.bind h3 fun u s4 ρ4 H4 r x4 rp4 rv4 h4 => ⟨ρ4, s4, y, u, rp4, (rv2.mono x3).mono x4, rv4, po_of h4⟩⟩
theorem se_chain {op op' : CmpOp} {f f' : Hh → W → W → S → O2} (ho : OpI G X (compareOp op) f) (ho' : OpI G X (compareOp op') f') (ha : SE G p E X a ma) (hb : SE G p E X b mb) (hc : SE G p E X c mc)
    (hm : lastMarks [op, op'] [b, c] = false := by with_unfolding_all rfl) : SE G p E X (.Compare a [op, op'] [b, c] pos) (eChain f f' p ma mb mc) :=
  PE_imp (pe_chain (ho p) (ho' p) ha hb hc hm) fun σ H Q h => chain_way h
theorem st_chain {op op' : CmpOp} {f f' : Hh → W → W → S → O2} (ho : OpI G X (compareOp op) f) (ho' : OpI G X (compareOp op') f') (ha : SE G p E X a ma) (hb : SE G p E X b mb) (hc : SE G p E X c mc)
    (hm : lastMarks [op, op'] [b, c] = false := by with_unfolding_all rfl) : ST G p E X (.Compare a [op, op'] [b, c] pos) (tVal (eChain f f' p ma mb mc)) :=
  PT_imp (pt_chain (ho p) (ho' p) ha hb hc hm) fun σ H Q ⟨ρ, l, s, rl, rp, h⟩ => by
    refine chain_way (E := E) ⟨ρ, l, s, rl, rp, ?_⟩
    refine PoA.bind h fun x s1 ρ1 H1 v x1 rp1 rv1 h1 => ?_
    cases rv1 <;> first | exact h1.elim | skip
    exact ⟨_, rfl, h1 ρ1 H1 _ Ex.rfl' rp1 rfl⟩
variable {ta tb : Lo → S → R Bool} {rest : List Expr}
theorem st_w (h : SW G p E X a ta) : ST G p E X a ta := PW.pt h
theorem sw_and1 (h : ST G p E X a ta) : SW G p E X (.BoolOp .And [a] pos) ta := pw_and1 h
theorem sw_or1 (h : ST G p E X a ta) : SW G p E X (.BoolOp .Or [a] pos) ta := pw_or1 h
theorem sw_and (ha : ST G p E X a ta) (hb : SW G p E X (.BoolOp .And (b :: rest) pos) tb) : SW G p E X (.BoolOp .And (a :: b :: rest) pos) (tAndT ta tb) :=
  PW_imp (pw_and ha hb) fun σ H Q ⟨ρ, l, s, rl, rp, h⟩ => ⟨ρ, l, s, rl, rp, PoA.bind h fun x s1 ρ1 H1 v x1 rp1 rv1 h1 => by
    cases rv1
    cases x with
    | true => exact ⟨ρ1, l, s1, rl.mono x1, rp1, h1⟩
    | false => exact h1 ρ1 H1 _ Ex.rfl' rp1 rfl⟩
theorem sw_or (ha : ST G p E X a ta) (hb : SW G p E X (.BoolOp .Or (b :: rest) pos) tb) : SW G p E X (.BoolOp .Or (a :: b :: rest) pos) (tOrT ta tb) :=
  PW_imp (pw_or ha hb) fun σ H Q ⟨ρ, l, s, rl, rp, h⟩ => ⟨ρ, l, s, rl, rp, PoA.bind h fun x s1 ρ1 H1 v x1 rp1 rv1 h1 => by
    cases rv1
    cases x with
    | false => exact ⟨ρ1, l, s1, rl.mono x1, rp1, h1⟩
    | true => exact h1 ρ1 H1 _ Ex.rfl' rp1 rfl⟩
theorem st_not (ha : ST G p E X a ta) : ST G p E X (.UnaryOp .Not a pos) (tNotT ta) :=
  PT_imp (pt_not ha) fun σ H Q ⟨ρ, l, s, rl, rp, h⟩ => ⟨ρ, l, s, rl, rp, PoA.bind h fun x s1 ρ1 H1 v x1 rp1 rv1 h1 => by
    cases rv1
    exact h1 ρ1 H1 _ Ex.rfl' rp1 rfl⟩
theorem se_if (hc : ST G p E X c ta) (ha : SE G p E X a ma) (hb : SE G p E X b mb) : SE G p E X (.IfExp c a b pos) (eIf ta ma mb) :=
  PE_imp (pe_ifExp hc ha hb) fun σ H Q ⟨ρ, l, s, rl, rp, h⟩ => ⟨ρ, l, s, rl, rp, PoA.bind h fun x s1 ρ1 H1 v x1 rp1 rv1 h1 => by
    cases rv1
    cases x with
    | true => exact ⟨ρ1, l, s1, rl.mono x1, rp1, h1⟩
    | false => exact ⟨ρ1, l, s1, rl.mono x1, rp1, h1⟩⟩
theorem se_one {op} (h : SE G p E X a ma) : SE G p E X (.BoolOp op [a] pos) ma := pe_one h
theorem se_and (ha : SE G p E X a ma) (hb : SE G p E X (.BoolOp .And (b :: rest) pos) mb) : SE G p E X (.BoolOp .And (a :: b :: rest) pos) (eAndV ma mb) :=
  PE_imp (pe_and ha hb) fun σ H Q ⟨ρ, l, s, rl, rp, h⟩ => ⟨ρ, l, s, rl, rp, PoA.bind h fun x s1 ρ1 H1 v x1 rp1 rv1 h1 => by
    cases rv1 <;> first | exact h1.elim | skip
    rename_i bb
    cases bb with
    | true => exact ⟨true, rfl, ρ1, l, s1, rl.mono x1, rp1, h1⟩
    | false => exact ⟨false, rfl, h1 ρ1 H1 _ Ex.rfl' rp1 (.bl false)⟩⟩
theorem se_or (ha : SE G p E X a ma) (hb : SE G p E X (.BoolOp .Or (b :: rest) pos) mb) : SE G p E X (.BoolOp .Or (a :: b :: rest) pos) (eOrV ma mb) :=
  PE_imp (pe_or ha hb) fun σ H Q ⟨ρ, l, s, rl, rp, h⟩ => ⟨ρ, l, s, rl, rp, PoA.bind h fun x s1 ρ1 H1 v x1 rp1 rv1 h1 => by
    cases rv1 <;> first | exact h1.elim | skip
    rename_i bb
    cases bb with
    | false => exact ⟨false, rfl, ρ1, l, s1, rl.mono x1, rp1, h1⟩
    | true => exact ⟨true, rfl, h1 ρ1 H1 _ Ex.rfl' rp1 (.bl true)⟩⟩
theorem se_not (ha : SE G p E X a ma) : SE G p E X (.UnaryOp .Not a pos) (eNotV ma) :=
  PE_imp (pe_not ha) fun σ H Q ⟨ρ, l, s, rl, rp, h⟩ => ⟨ρ, l, s, rl, rp, PoA.bind h fun x s1 ρ1 H1 v x1 rp1 rv1 h1 => by
    cases rv1 <;> first | exact h1.elim | skip
    exact ⟨_, rfl, h1 ρ1 H1 _ Ex.rfl' rp1 (.bl _)⟩⟩
/-! arguments, displays -/
theorem sa_nil : SA G p E X [] aNil := PA_imp pa_nil fun σ H Q ⟨ρ, l, s, rl, rp, h⟩ => h ρ H [] Ex.rfl' rp .nil
theorem sa_cons (ha : SE G p E X a ma) (hr : SA G p E X es mr) (hs : starEach (a :: es) X.env = (false, eval a X.env) :: starEach es X.env := by rfl) : SA G p E X (a :: es) (aCons ma mr) :=
  PA_imp (pa_cons ha hr hs) fun σ H Q ⟨ρ, l, s, rl, rp, h⟩ => ⟨ρ, l, s, rl, rp, PoA.bind h fun x s1 ρ1 H1 v x1 rp1 rv1 h1 => ⟨ρ1, l, s1, rl.mono x1, rp1, PoA.bind h1 fun xs s2 ρ2 H2 vs x2 rp2 rv2 h2 => h2 ρ2 H2 _ Ex.rfl' rp2 (.cons (rv1.mono x2) rv2)⟩⟩
theorem million {n : Nat} (h : n ≤ 1000000) : n ≤ sizeLine := by rw [sizeLine_eq]; omega
theorem se_tup {x1} (h : SA G p E X es mr) : SE G p E X (.Tuple es x1 pos) (eTup mr) :=
  PE_imp (pe_tup h) fun σ H Q ⟨ρ, l, s, rl, rp, h⟩ => ⟨ρ, l, s, rl, rp, PoA.bind h fun xs s1 ρ1 H1 vs x1 rp1 rv1 h1 => by
    split at h1
    · rename_i hl
      refine ⟨million (by rw [← rv1.len]; exact hl), fun q hq => h1 ρ1 _ _ (Ex.fresh rp1 hq) (rp1.fresh hq) (.tup (rp1.ref_none hq) upd_same (rv1.mono (Ex.fresh rp1 hq)))⟩
    · exact h1.elim⟩
theorem se_lst (h : SA G p E X es mr) : SE G p E X (.List es pos) (eLst p mr) :=
  PE_imp (pe_lst h) fun σ H Q ⟨ρ, l, s, rl, rp, h⟩ => ⟨ρ, l, s, rl, rp, PoA.bind h fun xs s1 ρ1 H1 vs x1 rp1 rv1 h1 => by
    split at h1
    · rename_i hl
      refine ⟨million (by rw [← rv1.len]; exact hl), fun q hq => ?_⟩
      have xx : Ex ρ1 H1 (ρ1 ++ [q]) (upd H1 q (.lst vs)) := Ex.al rp1 hq
      obtain ⟨_, r2, r3⟩ := rp1.al_ (o := .lst xs) hq (.lst (rv1.mono xx))
      exact h1 _ _ _ xx r2 r3
    · exact h1.elim⟩
/-! built-ins by name -/
theorem b_way {r : List V → Hp → VK → Prop} {f : Hh → List W → S → O2} {σ : L2.St} {H : Hp} {Q : VK} (h : tI G p E (eB f p mr) σ H Q) :
    tCB (fun vs H Q => ∃ ρ s xs, Rep G ρ p s H ∧ RVs G ρ H xs vs ∧ PoO G p ρ H (f p xs s) Q) (tA G p E mr) σ H Q := by
  obtain ⟨ρ, l, s, rl, rp, h⟩ := h
  exact ⟨ρ, l, s, rl, rp, PoA.bind h fun xs s1 ρ1 H1 vs x1 rp1 rv1 h1 => ⟨ρ1, s1, xs, rp1, rv1, po_of h1⟩⟩
theorem se_b {x : Str} {id : String} {f : Hh → List W → S → O2} {p' : Pos} (hc : CallI G X (.builtin id) f) (hm : X.mg x = none) (ha : SA G p E X (a :: es) mr) (hv : bootBuiltins x = some (.builtin id) := by decide +kernel) (hg : Gl X x := by rfl) (hn : x ≠ "__name__" := by decide) (hdb : (x == ("__debug__" : Str)) = false := by decide)
    (he : starEach (a :: es) X.env = (false, eval a X.env) :: starEach es X.env := by rfl) (hpl : (backTo pos (starEach es X.env)).any (·.1) = false := by rfl) : SE G p E X (.Call (.Name x p') (a :: es) [] pos) (eB f p mr) :=
  PE_imp (pe_callB (hc p) hg hm hv ha hn hdb he hpl) fun σ H Q h => b_way (r := fun _ _ _ => True) h
theorem se_bt {x : Str} {T : String} {f : Hh → List W → S → O2} {p' : Pos} (hc : CallI G X (.type T) f) (hm : X.mg x = none) (ha : SA G p E X (a :: es) mr) (hv : bootBuiltins x = some (.type T) := by decide +kernel) (hg : Gl X x := by rfl) (hn : x ≠ "__name__" := by decide) (hdb : (x == ("__debug__" : Str)) = false := by decide)
    (he : starEach (a :: es) X.env = (false, eval a X.env) :: starEach es X.env := by rfl) (hpl : (backTo pos (starEach es X.env)).any (·.1) = false := by rfl) : SE G p E X (.Call (.Name x p') (a :: es) [] pos) (eB f p mr) :=
  PE_imp (pe_callTy (hc p) hg hm hv ha hn hdb he hpl) fun σ H Q h => b_way (r := fun _ _ _ => True) h
/-! ### statements -/
variable {st : Stmt} {sts : List Stmt} {m m' : Lo → S → RS}
theorem PoS.nx {p : Hh} {ρ : List Addr} {H : Hp} {l : Lo} {s : S} {D : Ends} {σ : L2.St} (h : PoS G p ρ H (.nx l s) D E) (rp : Rep G ρ p s H) (rl : RL G ρ H l σ) : D.nx σ H := h ρ H σ Ex.rfl' rp rl
theorem sb_nil : SB G p E X [] sNx := PSs_imp pss_nil fun D σ H ⟨ρ, l, s, rl, rp, h⟩ => h ρ H σ Ex.rfl' rp rl
/-- the first part's result, the second part behind its plain end -/
theorem PoS.seq {ρ : List Addr} {H : Hp} {r : RS} {k : Lo → S → RS} {D : Ends} (h : PoS G p ρ H (match r with | .nx l1 s1 => k l1 s1 | r => r) D E) : PoS G p ρ H r { D with nx := tS G p E k D } E := by
  cases r with
  | nx l s => exact fun ρ' H' σ' x rp rl => ⟨ρ', l, s, rl, rp, PoS.base h x⟩
  | _ => exact h
theorem sb_cons (h1 : SS G p E X st m) (h2 : SB G p E X sts m') : SB G p E X (st :: sts) (sSeq m m') :=
  PSs_imp (pss_cons h1 h2) fun D σ H ⟨ρ, l, s, rl, rp, h⟩ => ⟨ρ, l, s, rl, rp, PoS.seq h⟩
theorem sb_one (h1 : SS G p E X st m) : SB G p E X [st] m := pss_one h1
theorem ss_pass : SS G p E X (.Pass pos) sNx := PS_imp ps_pass fun D σ H ⟨ρ, l, s, rl, rp, h⟩ => h ρ H σ Ex.rfl' rp rl
theorem ss_brk : SS G p E X (.Break pos) sBrk := PS_imp ps_break fun D σ H ⟨ρ, l, s, rl, rp, h⟩ => h ρ H σ Ex.rfl' rp rl
theorem ss_ct : SS G p E X (.Continue pos) sCt := PS_imp ps_continue fun D σ H ⟨ρ, l, s, rl, rp, h⟩ => h ρ H σ Ex.rfl' rp rl
theorem ss_doc {x j pos'} : SS G p E X (.Expr (.Constant (.str x) j pos) pos') sNx := PS_imp ps_doc fun D σ H ⟨ρ, l, s, rl, rp, h⟩ => h ρ H σ Ex.rfl' rp rl
/-- an expression's value, then the rest -/
theorem PoS.val {ρ : List Addr} {H : Hp} {σ : L2.St} {l : Lo} {r : R W} {k : W → S → RS} {D : Ends} {Q : VK} (rl : RL G ρ H l σ) (h : PoS G p ρ H (r.toS l k) D E)
    (hk : ∀ w s' ρ' H' v, Ex ρ H ρ' H' → Rep G ρ' p s' H' → RV G ρ' H' w v → PoS G p ρ' H' (k w s') D E → Q v H') : PoV G p ρ H r Q (fun c d H' => E c d σ H') := by
  cases r with
  | ok w s => exact fun ρ' H' v x y z => hk w s ρ' H' v x y z (PoS.base h x)
  | exc c w s => exact fun ρ' H' d x y z => h ρ' H' d σ x y z (rl.mono x)
  | bad => exact h
theorem ss_ex (ha : SE G p E X a ma) (hs : swapsWith a none pos.line X.env = pure false := by rfl) : SS G p E X (.Expr a pos) (sEx ma) :=
  PS_imp (ps_expr ha hs) fun D σ H ⟨ρ, l, s, rl, rp, h⟩ => ⟨ρ, l, s, rl, rp, PoS.val rl h fun w s1 ρ1 H1 v x1 rp1 rv1 h1 => h1 ρ1 H1 σ Ex.rfl' rp1 (rl.mono x1)⟩
theorem ss_ret (ha : SE G p E X a ma) : SS G p E X (.Return (some a) pos) (sRet ma) :=
  PS_imp (ps_ret ha) fun D σ H ⟨ρ, l, s, rl, rp, h⟩ => ⟨ρ, l, s, rl, rp, PoS.val rl h fun w s1 ρ1 H1 v x1 rp1 rv1 h1 => h1 ρ1 H1 v Ex.rfl' rp1 rv1⟩
theorem ss_retN : SS G p E X (.Return none pos) sRetN := PS_imp ps_retN fun D σ H ⟨ρ, l, s, rl, rp, h⟩ => h ρ H _ Ex.rfl' rp .non
theorem ss_if {sa sb : List Stmt} (hc : ST G p E X c ta) (ha : SB G p E X sa m) (hb : SB G p E X sb m') : SS G p E X (.If c sa sb pos) (sIf ta m m') :=
  PS_imp (ps_if hc ha hb) fun D σ H ⟨ρ, l, s, rl, rp, h⟩ => ⟨ρ, l, s, rl, rp, by
    unfold sIf at h
    cases e : ta l s with
    | bad => rw [e] at h; exact h.elim
    | exc c w s1 => rw [e] at h; exact fun ρ' H' d x y z => h ρ' H' d σ x y z (rl.mono x)
    | ok bb s1 =>
      rw [e] at h
      refine fun ρ1 H1 v x1 rp1 rv1 => ?_
      cases rv1
      cases bb with
      | true => exact ⟨ρ1, l, s1, rl.mono x1, rp1, PoS.base h x1⟩
      | false => exact ⟨ρ1, l, s1, rl.mono x1, rp1, PoS.base h x1⟩⟩
/-! targets -/
variable {tg : Expr} {tgs : List Expr} {g : W → Lo → S → OG} {gs : List W → Lo → S → OG}
theorem PoG.base {ρ ρ1 : List Addr} {H H1 : Hp} {r : Option (Lo × S)} {Q : L2.St → Hp → Prop} (h : PoG G p ρ H r Q) (x : Ex ρ H ρ1 H1) : PoG G p ρ1 H1 r Q := by
  cases r with
  | none => exact h
  | some q => exact fun ρ' H' σ' y => h ρ' H' σ' (x.trans y)
theorem sg_nm (i : Nat) {x : Str} (hN : X.N.Nodup) (hi : X.N[i]? = some x := by rfl) (hx : Loc X.env.scope x := by first | exact .inl rfl | exact .inr rfl) (hf : X.fn x = true ∨ X.env.scope.names.lookup x = some .local := by first | exact .inl rfl | exact .inr rfl | assumption) (hh : G.hold ≠ some i := by intro z; cases z) : SG G p X (.Name x pos) (gNm i) :=
  PG_imp (pg_name hN hi hx hf) fun v σ H Q ⟨ρ, l, s, w, rl, rp, rv, h⟩ => h ρ H _ Ex.rfl' rp (rl.set i rv hh)
theorem sgs_nil : SGs G p X [] gsNil := PGs_imp pgs_nil fun v σ H Q ⟨ρ, l, s, ws, rl, rp, rv, h⟩ => by
  cases rv with
  | nil => exact ⟨rfl, h ρ H σ Ex.rfl' rp rl⟩
  | cons _ _ => exact h.elim
theorem sgs_cons (h1 : SG G p X tg g) (h2 : SGs G p X tgs gs) (hs : (assignEach (tg :: tgs) X.env).map (·.2) = assign tg X.env :: (assignEach tgs X.env).map (·.2) := by rfl) : SGs G p X (tg :: tgs) (gsCons g gs) :=
  PGs_imp (pgs_cons h1 h2 hs) fun v σ H Q ⟨ρ, l, s, ws, rl, rp, rv, h⟩ => by
    cases rv with
    | nil => exact h.elim
    | @cons w v1 ws' vs' r1 r2 =>
      refine ⟨_, _, rfl, ρ, l, s, w, rl, rp, r1, ?_⟩
      unfold gsCons at h
      dsimp only at h
      cases e : g w l s with
      | none => rw [e] at h; exact h
      | some q =>
        obtain ⟨l1, s1⟩ := q
        rw [e] at h
        exact fun ρ' H' σ' x y z => ⟨ρ', l1, s1, ws', z, y, r2.mono x, PoG.base h x⟩
theorem sg_tup {n : Nat} {kk : Nat} (hc : X.calm = true) (h : SGs G p X tgs gs) (hn : (assignEach tgs X.env).length = n := by rfl) (hst : (assignEach tgs X.env).findIdx? (·.1) = none := by rfl) : SG G p X (.Tuple tgs kk pos) (gTupT n gs) :=
  PG_imp (pg_tup hc h hn hst) fun v σ H Q ⟨ρ, l, s, w, rl, rp, rv, h⟩ => by
    cases rv with
    | @tup a ws vs na ha r =>
      unfold gTupT at h
      dsimp only at h
      split at h
      · rename_i hl
        exact ⟨_, vs, rfl, SqT.of ha, by rw [← r.len]; exact hl, ρ, l, s, ws, rl, rp, r, h⟩
      · exact h.elim
    | _ => exact h.elim
theorem PoG.ofS {ρ : List Addr} {H : Hp} {r : OG} {D : Ends} (h : PoS G p ρ H (nxO r) D E) : PoG G p ρ H r D.nx := by
  cases r with
  | none => exact h
  | some q => obtain ⟨l, s⟩ := q; exact h
theorem ss_asg (ha : SE G p E X a ma) (hg : SG G p X tg g) (hs : swapsWithSole [tg] a pos.line X.env = pure false := by rfl) (hw : swappedStores [tg] a X.env = pure none := by rfl)
    (h1 : (assignEach [tg] X.env).map (·.2) = [assign tg X.env] := by rfl) : SS G p E X (.Assign [tg] a pos) (sAsg g ma) :=
  PS_imp (ps_asg ha hg hs hw h1) fun D σ H ⟨ρ, l, s, rl, rp, h⟩ => ⟨ρ, l, s, rl, rp, PoS.val rl h fun w s1 ρ1 H1 v x1 rp1 rv1 h1 => ⟨ρ1, l, s1, w, rl.mono x1, rp1, rv1, PoG.ofS h1⟩⟩
theorem ss_set (i : Nat) {x : Str} {pos' : Pos} (ha : SE G p E X a ma) (hN : X.N.Nodup) (hi : X.N[i]? = some x := by rfl) (hx : Loc X.env.scope x := by first | exact .inl rfl | exact .inr rfl) (hs : swapsWith a (some (.Name x pos')) pos.line X.env = pure false := by rfl)
    (hf : X.fn x = true ∨ X.env.scope.names.lookup x = some .local := by first | exact .inl rfl | exact .inr rfl | assumption) (hh : G.hold ≠ some i := by intro z; cases z) : SS G p E X (.Assign [.Name x pos'] a pos) (sAsg (gNm i) ma) :=
  PS_imp (ps_set hN hi hx ha hs hf) fun D σ H ⟨ρ, l, s, rl, rp, h⟩ => ⟨ρ, l, s, rl, rp, PoS.val rl h fun w s1 ρ1 H1 v x1 rp1 rv1 h1 => h1 ρ1 H1 _ Ex.rfl' rp1 ((rl.mono x1).set i rv1 hh)⟩
def IpI (G : GE) (X : Cx) (op : Operator) (f : Hh → W → W → S → O2) : Prop :=
  ∀ p, PIp X op (fun v u H Q => ∃ ρ s x y, Rep G ρ p s H ∧ RV G ρ H x v ∧ RV G ρ H y u ∧ PoO G p ρ H (f p x y s) Q)
theorem ss_aug (i : Nat) {op : Operator} {f : Hh → W → W → S → O2} {x : Str} {pos' : Pos} (ho : IpI G X op f) (ha : SE G p E X a ma) (hN : X.N.Nodup) (hi : X.N[i]? = some x := by rfl) (hx : Loc X.env.scope x := by first | exact .inl rfl | exact .inr rfl)
    (hf : X.fn x = true ∨ X.env.scope.names.lookup x = some .local := by first | exact .inl rfl | exact .inr rfl | assumption) (hh : G.hold ≠ some i := by intro z; cases z) : SS G p E X (.AugAssign (.Name x pos') op a pos) (sAug f p i ma) :=
  PS_imp (ps_aug hN hi hx ha (ho p) hf) fun D σ H ⟨ρ, l, s, rl, rp, h⟩ => by
    unfold sAug at h
    split at h
    · rename_i w e
      obtain ⟨v, e1, r⟩ := rl.has i w e
      refine ⟨v, e1, ρ, l, s, rl, rp, PoS.val rl h fun y s1 ρ1 H1 u x1 rp1 rv1 h1 => ⟨ρ1, s1, w, y, rp1, r.mono x1, rv1, ?_⟩⟩
      cases q : f p w y s1 with
      | none => rw [q] at h1; exact h1
      | some z =>
        obtain ⟨z, s2⟩ := z
        rw [q] at h1
        exact fun ρ2 H2 v2 x2 rp2 rv2 => h1 ρ2 H2 _ x2 rp2 (((rl.mono x1).mono x2).set i rv2 hh)
    · exact h.elim
theorem ss_par2 (i j : Nat) {x y : Str} {px py pt : Pos} {kt k2 pt2} (hc : X.calm = true) (hN : X.N.Nodup) (ha : SA G p E X [a, b] mr) (hi : X.N[i]? = some x := by rfl) (hj : X.N[j]? = some y := by rfl) (hij : i ≠ j := by decide)
    (hx : X.env.scope.names.lookup x = some .local := by rfl) (hy : X.env.scope.names.lookup y = some .local := by rfl)
    (hw : swappedStores [.Tuple [.Name x px, .Name y py] kt pt] (.Tuple [a, b] k2 pt2) X.env = pure (some [x, y]) := by rfl)
    (hs : swapsWithSole [.Tuple [.Name x px, .Name y py] kt pt] (.Tuple [a, b] k2 pt2) pos.line X.env = pure false := by rfl) (hh : G.hold ≠ some i := by intro z; cases z) (hh2 : G.hold ≠ some j := by intro z; cases z) :
    SS G p E X (.Assign [.Tuple [.Name x px, .Name y py] kt pt] (.Tuple [a, b] k2 pt2) pos) (sPar2 i j mr) :=
  PS_imp (ps_par hc hN hi hj hij hx hy ha hw hs) fun D σ H ⟨ρ, l, s, rl, rp, h⟩ => ⟨ρ, l, s, rl, rp, by
    unfold sPar2 at h
    cases e : mr l s with
    | bad => rw [e] at h; exact h.elim
    | exc c w s1 => rw [e] at h; exact fun ρ' H' d x y z => h ρ' H' d σ x y z (rl.mono x)
    | ok ws s1 =>
      rw [e] at h
      refine fun ρ1 H1 vs x1 rp1 rv1 => ?_
      match ws, vs, rv1, h with
      | [], _, _, h => exact h.elim
      | [_], _, _, h => exact h.elim
      | [w1, w2], _, .cons r1 (.cons r2 .nil), h => exact ⟨_, _, rfl, h ρ1 H1 _ x1 rp1 (((rl.mono x1).set i r1 hh).set j r2 hh2)⟩
      | _ :: _ :: _ :: _, _, _, h => exact h.elim⟩
def SetI (G : GE) (X : Cx) (f : Hh → W → W → W → S → Option S) : Prop :=
  ∀ p, PSet X (fun o i v H Q => ∃ ρ s wo wi w, Rep G ρ p s H ∧ RV G ρ H wo o ∧ RV G ρ H wi i ∧ RV G ρ H w v ∧ (match f p wo wi w s with | some s' => ∀ H', Ex ρ H ρ H' → Rep G ρ p s' H' → Q H' | none => False))
theorem sg_sub {f : Hh → W → W → W → S → Option S} (hs : SetI G X f) (ho : SE G p (fun _ _ _ _ => False) X o mo) (hi : SE G p (fun _ _ _ _ => False) X i mi)
    (ha : ∀ v, assign (.Subscript o i pos) X.env v = (do
      let ov ← holding [v] (eval o X.env)
      let iv ← holding [v, ov] (eval i X.env)
      standAt pos
      holding [v, ov, iv] (setItem ov iv v)
      release [v, ov, iv] []) := by intro _; rfl) : SG G p X (.Subscript o i pos) (gSubT f p mo mi) :=
  PG_imp (pg_sub ho hi (hs p) ha) fun v σ H Q ⟨ρ, l, s, w, rl, rp, rv, h⟩ => by
    unfold gSubT at h
    refine ⟨ρ, l, s, rl, rp, ?_⟩
    cases e : mo l s with
    | bad => rw [e] at h; exact h.elim
    | exc _ _ _ => rw [e] at h; exact h.elim
    | ok wo s1 =>
      rw [e] at h
      dsimp only at h
      refine fun ρ1 H1 ov x1 rp1 rv1 => ⟨ρ1, l, s1, rl.mono x1, rp1, ?_⟩
      cases e2 : mi l s1 with
      | bad => rw [e2] at h; exact h.elim
      | exc _ _ _ => rw [e2] at h; exact h.elim
      | ok wi s2 =>
        rw [e2] at h
        dsimp only at h
        refine fun ρ2 H2 iv x2 rp2 rv2 => ⟨ρ2, s2, wo, wi, w, rp2, rv1.mono x2, rv2, (rv.mono x1).mono x2, ?_⟩
        cases e3 : f p wo wi w s2 with
        | none => rw [e3] at h; exact h
        | some s3 =>
          rw [e3] at h
          exact fun H3 x3 rp3 => h ρ2 H3 σ ((x1.trans x2).trans x3) rp3 (((rl.mono x1).mono x2).mono x3)
end
end CC
set_option Elab.async false
set_option linter.all false
set_option maxRecDepth 100000
/-! CCLoop: what is walked; for, while; comprehensions -/
namespace CC
open PySem PySem.Spec PyProof.Rows L2

inductive ItD where
  | lst (n : Nat) | tup (ws : List W) | rng (lo c : Int) (n : Nat) | enl (n : Nat) | ent (ws : List W) | zip (n m : Nat) | str (z : Str)
/-- none: no such thing; some none: the end -/
def cellItems (p : Hh) (s : S) (n : Nat) : Option (List W) := match rd p s n with
  | some (.lst ws) => some ws
  | some (.frz ns) => some (ns.map W.int)
  | _ => none
def ItD.next (p : Hh) (s : S) : ItD → Nat → Option (Option W)
  | .lst n, i => (cellItems p s n).map fun ws => ws[i]?
  | .tup ws, i => some ws[i]?
  | .rng lo c n, i => some (if i < n then some (.int (lo + (i : Nat) * c)) else none)
  | .enl n, i => (cellItems p s n).map fun ws => ws[i]?.map fun w => .tup [.int (i : Nat), w]
  | .ent ws, i => some (ws[i]?.map fun w => .tup [.int (i : Nat), w])
  | .zip n m, i => match cellItems p s n, cellItems p s m with
    | some xs, some ys => some (match xs[i]?, ys[i]? with | some x, some y => some (.tup [x, y]) | _, _ => none)
    | _, _ => none
  | .str z, i => some (z.cps[i]?.map fun c => .str ⟨#[c]⟩)
def cellLen (p : Hh) (s : S) (n : Nat) : Nat := match cellItems p s n with
  | some ws => ws.length
  | none => 0
def ItD.cnt (p : Hh) (s : S) : ItD → Nat
  | .lst n => cellLen p s n
  | .tup ws => ws.length
  | .rng _ _ n => n
  | .enl n => cellLen p s n
  | .ent ws => ws.length
  | .zip n m => cellLen p s n
  | .str z => z.cps.size

/-- the layer's iterator J walks what d says, from (ρ, H) on -/
structure RI (G : GE) (p : Hh) (ρ : List Addr) (H : Hp) (d : ItD) (J : It) : Prop where
  yes : ∀ i w s ρ1 H1, Ex ρ H ρ1 H1 → Rep G ρ1 p s H1 → d.next p s i = some (some w) → J.go i H1 ∧ ∀ x H2, J.yld i H1 x H2 → Ex ρ1 H1 ρ1 H2 ∧ Rep G ρ1 p s H2 ∧ RV G ρ1 H2 w x
  no : ∀ i s ρ1 H1, Ex ρ H ρ1 H1 → Rep G ρ1 p s H1 → d.next p s i = some none → J.stop i H1
def PoI (G : GE) (p : Hh) (ρ : List Addr) (H : Hp) (r : R ItD) (Q : It → Hp → Prop) (E : XK) : Prop := PoA G p ρ H (fun ρ' H' d J => RI G p ρ' H' d J) r Q E
def tIt (G : GE) (p : Hh) (E : WX) (m : Lo → S → R ItD) : TI := fun σ H Q => ∃ ρ l s, RL G ρ H l σ ∧ Rep G ρ p s H ∧ PoI G p ρ H (m l s) Q (fun c d H' => E c d σ H')
def SI (G : GE) (p : Hh) (E : WX) (X : Cx) (tg iter : Expr) (m : Lo → S → R ItD) : Prop := PI X tg iter (tIt G p E m)
theorem PI_imp {X : Cx} {tg e : Expr} {t t' : TI} (h : PI X tg e t) (i : ∀ σ H Q, t' σ H Q → t σ H Q) : PI X tg e t' := ⟨fun pins s σ H Q I w => h.run pins s σ H Q I (i σ H Q w)⟩

/-! ### the forms -/
/-- a list or a tuple -/
def iSeq (ma : Lo → S → R W) (p : Hh) : Lo → S → R ItD := fun l s => (ma l s).bind fun w s1 => match w with
  | .ref n => (match cellItems p s1 n with | some _ => .ok (.lst n) s1 | none => .bad)
  | .tup ws => .ok (.tup ws) s1
  | _ => .bad
section
variable {G : GE} {p : Hh} {E : WX} {X : Cx} {ρ : List Addr} {H : Hp} {s : S}
/-- a cell of items, as the layer reads it -/
theorem cell_seq {K : PySem.W.Frag} {n : Nat} {ws : List W} {a : Addr} (rp : Rep G ρ p s H) (h : cellItems p s n = some ws) (e : ρ[n]? = some a) : ∃ vs, SqL K H a vs ∧ RVs G ρ H ws vs := by
  unfold cellItems at h
  cases q : rd p s n with
  | none => rw [q] at h; cases h
  | some o =>
    obtain ⟨u, hu, ro⟩ := rp.at q e
    rw [q] at h
    cases ro with
    | lst r => cases h; exact ⟨_, .inl (.inl hu), r⟩
    | @frz ns o =>
      cases h
      refine ⟨_, .inl (.inr ⟨o, hu⟩), ?_⟩
      clear hu q rp e
      induction ns with
      | nil => exact .nil
      | cons i r ih => exact .cons (.int i) ih
    | dK _ _ => cases h
    | dT _ _ => cases h
    | ins _ _ => cases h
theorem ri_lst {K : PySem.W.Frag} {n : Nat} {a : Addr} (e : ρ[n]? = some a) : RI G p ρ H (.lst n) (Itl K a) where
  yes := fun i w s ρ1 H1 x rp h => by
    simp only [ItD.next] at h
    cases q : cellItems p s n with
    | none => rw [q] at h; cases h
    | some ws =>
      rw [q] at h
      have h : ws[i]? = some w := Option.some.inj h
      obtain ⟨vs, hs, r⟩ := cell_seq (K := K) rp q (x.get e)
      obtain ⟨v, hv, rv⟩ := r.get h
      refine ⟨⟨vs, v, hs, hv⟩, fun y H2 hy => ?_⟩
      obtain ⟨rfl, hy⟩ := hy
      have e2 := hy vs hs
      rw [hv] at e2; cases e2
      exact ⟨Ex.rfl', rp, rv⟩
  no := fun i s ρ1 H1 x rp h => by
    simp only [ItD.next] at h
    cases q : cellItems p s n with
    | none => rw [q] at h; cases h
    | some ws =>
      rw [q] at h
      have h : ws[i]? = none := Option.some.inj h
      obtain ⟨vs, hs, r⟩ := cell_seq (K := K) rp q (x.get e)
      exact ⟨vs, hs, by rw [← r.len]; exact List.getElem?_eq_none_iff.mp h⟩
theorem ri_tup {K : PySem.W.Frag} {ws : List W} {vs : List V} {a : Addr} (na : a ∉ ρ) (h : H a = some (.tup vs)) (r : RVs G ρ H ws vs) : RI G p ρ H (.tup ws) (Itt K a) where
  yes := fun i w s ρ1 H1 x rp q => by
    have q : ws[i]? = some w := Option.some.inj q
    have h1 := x.keep _ _ na h
    obtain ⟨v, hv, rv⟩ := (r.mono x).get q
    refine ⟨⟨vs, v, SqT.of h1, hv⟩, fun y H2 hy => ?_⟩
    obtain ⟨rfl, hy⟩ := hy
    have e2 := hy vs (SqT.of h1)
    rw [hv] at e2; cases e2
    exact ⟨Ex.rfl', rp, rv⟩
  no := fun i s ρ1 H1 x rp q => by
    have q : ws[i]? = none := Option.some.inj q
    exact ⟨vs, SqT.of (x.keep _ _ na h), by rw [← r.len]; exact List.getElem?_eq_none_iff.mp q⟩
theorem ri_rng {lo : Int} {n : Nat} : RI G p ρ H (.rng lo 1 n) (Itr lo n) where
  yes := fun i w s ρ1 H1 x rp q => by
    simp only [ItD.next] at q
    by_cases hi : i < n
    · rw [if_pos hi] at q
      cases q
      refine ⟨hi, fun y H2 hy => ?_⟩
      obtain ⟨rfl, rfl⟩ := hy
      exact ⟨Ex.rfl', rp, by rw [Int.mul_one]; exact .int _⟩
    · rw [if_neg hi] at q; cases q
  no := fun i s ρ1 H1 x rp q => by
    simp only [ItD.next] at q
    by_cases hi : i < n
    · rw [if_pos hi] at q; cases q
    · exact Nat.le_of_not_lt hi
theorem ri_rngC {lo c : Int} {n : Nat} : RI G p ρ H (.rng lo c n) (Itc lo c n) where
  yes := fun i w s ρ1 H1 x rp q => by
    simp only [ItD.next] at q
    by_cases hi : i < n
    · rw [if_pos hi] at q
      cases q
      refine ⟨hi, fun y H2 hy => ?_⟩
      obtain ⟨rfl, rfl⟩ := hy
      exact ⟨Ex.rfl', rp, .int _⟩
    · rw [if_neg hi] at q; cases q
  no := fun i s ρ1 H1 x rp q => by
    simp only [ItD.next] at q
    by_cases hi : i < n
    · rw [if_pos hi] at q; cases q
    · exact Nat.le_of_not_lt hi
/-- a new pair -/
theorem pair_new {T : Addr} {w1 w2 : W} {x1 x2 : V} (rp : Rep G ρ p s H) (nT : H T = none) (r1 : RV G ρ H w1 x1) (r2 : RV G ρ H w2 x2) : Ex ρ H ρ (upd H T (.tup [x1, x2])) ∧ Rep G ρ p s (upd H T (.tup [x1, x2])) ∧ RV G ρ (upd H T (.tup [x1, x2])) (.tup [w1, w2]) (.ref T) :=
  have x := Ex.fresh (u := .tup [x1, x2]) rp nT
  ⟨x, rp.fresh nT, .tup (rp.ref_none nT) upd_same (.cons (r1.mono x) (.cons (r2.mono x) .nil))⟩
theorem ri_enl {K : PySem.W.Frag} {n : Nat} {a : Addr} (e : ρ[n]? = some a) : RI G p ρ H (.enl n) (Ite K a) where
  yes := fun i w s ρ1 H1 x rp h => by
    simp only [ItD.next] at h
    cases q : cellItems p s n with
    | none => rw [q] at h; cases h
    | some ws =>
      rw [q] at h
      have h : ws[i]?.map (fun w => W.tup [.int (i : Nat), w]) = some w := Option.some.inj h
      cases q2 : ws[i]? with
      | none => rw [q2] at h; cases h
      | some w1 =>
        rw [q2] at h
        cases h
        obtain ⟨vs, hs, r⟩ := cell_seq (K := K) rp q (x.get e)
        obtain ⟨v, hv, rv⟩ := r.get q2
        refine ⟨⟨vs, v, hs, hv⟩, fun y H2 hy => ?_⟩
        obtain ⟨T, x1, rfl, nT, rfl, hy⟩ := hy
        have e2 := hy vs hs
        rw [hv] at e2; cases e2
        exact pair_new rp nT (.int _) rv
  no := fun i s ρ1 H1 x rp h => by
    simp only [ItD.next] at h
    cases q : cellItems p s n with
    | none => rw [q] at h; cases h
    | some ws =>
      rw [q] at h
      have h : ws[i]?.map (fun w => W.tup [.int (i : Nat), w]) = none := Option.some.inj h
      obtain ⟨vs, hs, r⟩ := cell_seq (K := K) rp q (x.get e)
      refine ⟨vs, hs, by rw [← r.len]; exact List.getElem?_eq_none_iff.mp (by simpa using h)⟩
variable {tg a b c : Expr} {ma mb mc : Lo → S → R W} {mr : Lo → S → R (List W)} {q' pos tpos : Pos}
theorem PI_or {e : Expr} {t t' : TI} (h : PI X tg e t) (h' : PI X tg e t') : PI X tg e (fun σ H R => t σ H R ∨ t' σ H R) := ⟨fun pins s σ H Q I w => w.elim (h.run pins s σ H Q I) (h'.run pins s σ H Q I)⟩
theorem si_seq (ha : SE G p E X a ma) : SI G p E X tg a (iSeq ma p) :=
  PI_imp (PI_or (pi_list ha) (pi_tup ha)) fun σ H R ⟨ρ, l, s, rl, rp, h⟩ => by
    unfold iSeq at h
    cases e : ma l s with
    | bad => rw [e] at h; exact h.elim
    | exc c w s1 =>
      refine .inl ⟨ρ, l, s, rl, rp, ?_⟩
      rw [e] at h ⊢
      exact h
    | ok w s1 =>
      rw [e] at h
      simp only [CC.R.bind] at h
      cases w with
      | ref n =>
        dsimp only at h
        cases q : cellItems p s1 n with
        | none => rw [q] at h; exact h.elim
        | some ws =>
          rw [q] at h
          refine .inl ⟨ρ, l, s, rl, rp, ?_⟩
          rw [e]
          refine fun ρ1 H1 v x1 rp1 rv => ?_
          cases rv with
          | ref e1 =>
            obtain ⟨vs, hs, _⟩ := cell_seq (K := X.K) rp1 q e1
            exact ⟨_, rfl, ⟨vs, hs⟩, h ρ1 H1 _ x1 rp1 (ri_lst e1)⟩
      | tup ws =>
        refine .inr ⟨ρ, l, s, rl, rp, ?_⟩
        rw [e]
        refine fun ρ1 H1 v x1 rp1 rv => ?_
        cases rv with
        | tup na h1 r => exact ⟨_, rfl, ⟨_, SqT.of h1⟩, h ρ1 H1 _ x1 rp1 (ri_tup na h1 r)⟩
      | _ => exact h.elim
def b62 (i : Int) : Bool := decide (-(2 ^ 62) ≤ i) && decide (i < 2 ^ 62)
theorem b62_ok {i : Int} (h : b62 i = true) : -(2 ^ 62) ≤ i ∧ i < 2 ^ 62 := by
  unfold b62 at h
  obtain ⟨a, b⟩ := Bool.and_eq_true_iff.mp h
  exact ⟨of_decide_eq_true a, of_decide_eq_true b⟩
def iRange1 (ma : Lo → S → R W) : Lo → S → R ItD := fun l s => (ma l s).bind fun w s1 => match w with
  | .int j => if b62 j then .ok (.rng 0 1 j.toNat) s1 else .bad
  | _ => .bad
def iRange2 (ma mb : Lo → S → R W) : Lo → S → R ItD := fun l s => (ma l s).bind fun w s1 => (mb l s1).bind fun w2 s2 => match w, w2 with
  | .int i, .int j => if b62 i && b62 j then .ok (.rng i 1 (j - i).toNat) s2 else .bad
  | _, _ => .bad
def rgOk (i j c : Int) : Bool := decide (c ≠ 0) && decide (c.natAbs < 1073741824) && Builtin.Range.small i j c && decide (Builtin.Range.rangeSize i j c = ((Builtin.Range.rangeSize i j c).toNat : Int))
def iRange3 (ma mb mc : Lo → S → R W) : Lo → S → R ItD := fun l s => (ma l s).bind fun w s1 => (mb l s1).bind fun w2 s2 => (mc l s2).bind fun w3 s3 => match w, w2, w3 with
  | .int i, .int j, .int c => if c = -1 then (if b62 i && b62 j then .ok (.rng i (-1) (i - j).toNat) s3 else .bad)
    else if rgOk i j c then .ok (.rng i c (Builtin.Range.rangeSize i j c).toNat) s3 else .bad
  | _, _, _ => .bad
/-- one argument's list from its expression -/
theorem pa1 (ha : SE G p E X a ma) (hs : starEach (a :: []) X.env = (false, eval a X.env) :: starEach [] X.env := by rfl) : PA X [a] (tCons (tI G p E ma) tNil) := pa_cons ha pa_nil hs
theorem si_range1 (hm : X.mg "range" = none) (ha : SE G p E X a ma) (hg : Gl X "range" := by rfl) (hs : starEach [a] X.env = [(false, eval a X.env)] := by rfl) (hs2 : starEach (a :: []) X.env = (false, eval a X.env) :: starEach [] X.env := by rfl) : SI G p E X tg (.Call (.Name "range" q') [a] [] pos) (iRange1 ma) :=
  PI_imp (pi_range1 hg hm (pa1 ha hs2) hs) fun σ H R' ⟨ρ, l, s, rl, rp, h⟩ => by
    unfold iRange1 at h
    refine ⟨ρ, l, s, rl, rp, PoA.bind h fun w s1 ρ1 H1 v x1 rp1 rv1 h1 => ?_⟩
    cases rv1 with
    | int j =>
      dsimp only at h1
      split at h1
      · rename_i hb
        obtain ⟨b1, b2⟩ := b62_ok hb
        exact ⟨j, rfl, b1, b2, h1 ρ1 H1 _ Ex.rfl' rp1 ri_rng⟩
      · exact h1.elim
    | _ => exact h1.elim
theorem si_range2 (hm : X.mg "range" = none) (ha : SE G p E X a ma) (hb : SE G p E X b mb) (hg : Gl X "range" := by rfl) (hs : starEach [a, b] X.env = [(false, eval a X.env), (false, eval b X.env)] := by rfl) (hs2 : starEach [b] X.env = [(false, eval b X.env)] := by rfl)
    (hs3 : starEach (a :: [b]) X.env = (false, eval a X.env) :: starEach [b] X.env := by rfl) (hs4 : starEach (b :: []) X.env = (false, eval b X.env) :: starEach [] X.env := by rfl) : SI G p E X tg (.Call (.Name "range" q') [a, b] [] pos) (iRange2 ma mb) :=
  PI_imp (pi_range2 hg hm (pa_cons ha (pa1 hb hs4) hs3) hs hs2) fun σ H R' ⟨ρ, l, s, rl, rp, h⟩ => by
    unfold iRange2 at h
    refine ⟨ρ, l, s, rl, rp, PoA.bind h fun w s1 ρ1 H1 v x1 rp1 rv1 h1 => ⟨ρ1, l, s1, rl.mono x1, rp1, PoA.bind h1 fun w2 s2 ρ2 H2 v2 x2 rp2 rv2 h2 => ?_⟩⟩
    cases rv1 with
    | int i =>
      cases rv2 with
      | int j =>
        dsimp only at h2
        split at h2
        · rename_i hb
          obtain ⟨c1, c2⟩ := Bool.and_eq_true_iff.mp hb
          obtain ⟨b1, b2⟩ := b62_ok c1
          obtain ⟨b3, b4⟩ := b62_ok c2
          exact ⟨i, j, rfl, ⟨b1, b2, b3, b4⟩, h2 ρ2 H2 _ Ex.rfl' rp2 ri_rng⟩
        · exact h2.elim
      | _ => exact h2.elim
    | _ => exact h2.elim
theorem si_range3 (hm : X.mg "range" = none) (ha : SE G p E X a ma) (hb : SE G p E X b mb) (hc : SE G p E X c mc) (hg : Gl X "range" := by rfl) (hs1 : starEach (a :: [b, c]) X.env = (false, eval a X.env) :: starEach [b, c] X.env := by rfl) (hs2 : starEach (b :: [c]) X.env = (false, eval b X.env) :: starEach [c] X.env := by rfl) (hs3 : starEach (c :: []) X.env = (false, eval c X.env) :: starEach [] X.env := by rfl)
    (K : ∀ {ta : TA}, PA X [a, b, c] ta → PI X tg (.Call (.Name "range" q') [a, b, c] [] pos) (iRng3 ta)) : SI G p E X tg (.Call (.Name "range" q') [a, b, c] [] pos) (iRange3 ma mb mc) :=
  PI_imp (K (pa_cons ha (pa_cons hb (pa1 hc hs3) hs2) hs1)) fun σ H R' ⟨ρ, l, s, rl, rp, h⟩ => by
    unfold iRange3 at h
    refine ⟨ρ, l, s, rl, rp, PoA.bind h fun w s1 ρ1 H1 v x1 rp1 rv1 h1 => ⟨ρ1, l, s1, rl.mono x1, rp1, PoA.bind h1 fun w2 s2 ρ2 H2 v2 x2 rp2 rv2 h2 => ⟨ρ2, l, s2, (rl.mono x1).mono x2, rp2, PoA.bind h2 fun w3 s3 ρ3 H3 v3 x3 rp3 rv3 h3 => ?_⟩⟩⟩
    cases rv1 with
    | int i =>
      cases rv2 with
      | int j =>
        cases rv3 with
        | int c =>
          dsimp only at h3
          split at h3
          · rename_i hc
            subst hc
            split at h3
            · rename_i hb
              obtain ⟨c1, c2⟩ := Bool.and_eq_true_iff.mp hb
              obtain ⟨b1, b2⟩ := b62_ok c1
              obtain ⟨b3, b4⟩ := b62_ok c2
              exact ⟨i, j, -1, _, rfl, RgC.neg b1 b2 b3 b4, h3 ρ3 H3 _ Ex.rfl' rp3 ri_rngC⟩
            · exact h3.elim
          · split at h3
            · rename_i hb
              unfold rgOk at hb
              obtain ⟨hb, c4⟩ := Bool.and_eq_true_iff.mp hb
              obtain ⟨hb, c3⟩ := Bool.and_eq_true_iff.mp hb
              obtain ⟨c1, c2⟩ := Bool.and_eq_true_iff.mp hb
              exact ⟨i, j, c, _, rfl, ⟨of_decide_eq_true c1, of_decide_eq_true c2, c3, of_decide_eq_true c4⟩, h3 ρ3 H3 _ Ex.rfl' rp3 ri_rngC⟩
            · exact h3.elim
        | _ => exact h3.elim
      | _ => exact h3.elim
    | _ => exact h3.elim
/-- enumerate(list) -/
def iEnl (ma : Lo → S → R W) (p : Hh) : Lo → S → R ItD := fun l s => (ma l s).bind fun w s1 => match w with
  | .ref n => (match cellItems p s1 n with | some _ => .ok (.enl n) s1 | none => .bad)
  | .tup ws => .ok (.ent ws) s1
  | _ => .bad
/-! ### for -/
variable {g : W → Lo → S → OG} {m mb' : Lo → S → RS} {mi : Lo → S → R ItD} {ta : Lo → S → R Bool}
def forI (p : Hh) (g : W → Lo → S → OG) (b : Lo → S → RS) (d : ItD) : Nat → Nat → Lo → S → RS
  | 0, _, _, _ => .bad
  | k + 1, i, l, s => match d.next p s i with
    | none => .bad
    | some none => .nx l s
    | some (some w) => match g w l s with
      | none => .bad
      | some (l1, s1) => match b l1 s1 with
        | .nx l2 s2 => forI p g b d k (i + 1) l2 s2
        | .ct l2 s2 => forI p g b d k (i + 1) l2 s2
        | .brk l2 s2 => .nx l2 s2
        | r => r
def sFor (p : Hh) (g : W → Lo → S → OG) (mi : Lo → S → R ItD) (b : Lo → S → RS) : Lo → S → RS := fun l s => match mi l s with
  | .ok d s1 => forI p g b d (d.cnt p s1 + 1) 0 l s1
  | .exc c w s1 => .exc c w l s1
  | .bad => .bad
theorem ss_for {iter : Expr} {body : List Stmt} {k : Nat} (cn : Cn X E k) (hi : SI G p E X tg iter mi) (hg : SG G p X tg g) (hb : SB G p E X body m) (hs : ∀ x, foldedSetIterable iter X.env x = pure x := by intro _; rfl) : SS G p E X (.For tg iter body [] pos) (sFor p g mi m) :=
  PS_imp (ps_for cn.own cn.calm hi hg hb hs) fun D σ H ⟨ρ, l, s, rl, rp, h⟩ => ⟨ρ, l, s, rl, rp, by
    unfold sFor at h
    cases e : mi l s with
    | bad => rw [e] at h; exact h.elim
    | exc c w s1 => rw [e] at h; exact fun ρ' H' d x y z => h ρ' H' d σ x y z (rl.mono x)
    | ok d s1 =>
      rw [e] at h
      dsimp only at h
      refine fun ρ0 H0 J x0 rp0 ri => ⟨fun i n σ' H' => ∃ ρ' l' s', Ex ρ0 H0 ρ' H' ∧ RL G ρ' H' l' σ' ∧ Rep G ρ' p s' H' ∧ PoS G p ρ' H' (forI p g m d n i l' s') D E, ⟨_, ρ0, l, s1, Ex.rfl', rl.mono x0, rp0, PoS.base h x0⟩, ?_⟩
      rintro i n σ1 H1 ⟨ρ1, l1, s2, x1, rl1, rp1, h1⟩
      cases n with
      | zero => exact h1.elim
      | succ n =>
        unfold forI at h1
        cases q : d.next p s2 i with
        | none => rw [q] at h1; exact h1.elim
        | some o =>
          rw [q] at h1
          cases o with
          | none => exact .inl ⟨ri.no i s2 ρ1 H1 x1 rp1 q, h1 ρ1 H1 σ1 Ex.rfl' rp1 rl1⟩
          | some w =>
            obtain ⟨go, yl⟩ := ri.yes i w s2 ρ1 H1 x1 rp1 q
            refine .inr ⟨go, fun σ' H' => ∃ ρ' l' s', Ex ρ0 H0 ρ' H' ∧ RL G ρ' H' l' σ' ∧ Rep G ρ' p s' H' ∧ PoS G p ρ' H' (forI p g m d n (i + 1) l' s') D E, fun σ' H' z => ⟨n, Nat.lt_succ_self n, z⟩, fun v H2 y => ?_⟩
            obtain ⟨x2, rp2, rv⟩ := yl v H2 y
            dsimp only at h1
            refine ⟨ρ1, l1, s2, w, rl1.mono x2, rp2, rv, ?_⟩
            cases q2 : g w l1 s2 with
            | none => rw [q2] at h1; exact h1.elim
            | some z =>
              obtain ⟨l3, s3⟩ := z
              rw [q2] at h1
              dsimp only at h1
              refine fun ρ3 H3 σ3 x3 rp3 rl3 => ⟨ρ3, l3, s3, rl3, rp3, ?_⟩
              have h1 := PoS.base h1 (x2.trans x3)
              cases q3 : m l3 s3 with
              | nx l4 s4 => rw [q3] at h1; exact fun ρ4 H4 σ4 x4 rp4 rl4 => ⟨ρ4, l4, s4, ((x1.trans x2).trans x3).trans x4, rl4, rp4, PoS.base h1 x4⟩
              | ct l4 s4 => rw [q3] at h1; exact fun ρ4 H4 σ4 x4 rp4 rl4 => ⟨ρ4, l4, s4, ((x1.trans x2).trans x3).trans x4, rl4, rp4, PoS.base h1 x4⟩
              | brk l4 s4 => rw [q3] at h1; exact h1
              | ret w4 s4 => rw [q3] at h1; exact h1
              | exc c w4 l4 s4 => rw [q3] at h1; exact h1
              | bad => rw [q3] at h1; exact h1⟩
/-! ### while -/
def whI (t : Lo → S → R Bool) (b : Lo → S → RS) : Nat → Lo → S → RS
  | 0, _, _ => .bad
  | n + 1, l, s => match t l s with
    | .bad => .bad
    | .exc c w s1 => .exc c w l s1
    | .ok false s1 => .nx l s1
    | .ok true s1 => match b l s1 with
      | .nx l2 s2 => whI t b n l2 s2
      | .ct l2 s2 => whI t b n l2 s2
      | .brk l2 s2 => .nx l2 s2
      | r => r
def sWh (n : Nat) (t : Lo → S → R Bool) (b : Lo → S → RS) : Lo → S → RS := whI t b n
theorem ss_while {body : List Stmt} {k : Nat} (n : Nat) (cn : Cn X E k) (hc : ST G p E X c ta) (hb : SB G p E X body m) : SS G p E X (.While c body [] pos) (sWh n ta m) :=
  PS_imp (ps_while cn.own hc hb) fun D σ H ⟨ρ, l, s, rl, rp, h⟩ => by
    refine ⟨fun n σ' H' => ∃ ρ' l' s', RL G ρ' H' l' σ' ∧ Rep G ρ' p s' H' ∧ PoS G p ρ' H' (whI ta m n l' s') D E, ⟨n, ρ, l, s, rl, rp, h⟩, ?_⟩
    rintro n σ1 H1 ⟨ρ1, l1, s1, rl1, rp1, h1⟩
    refine ⟨ρ1, l1, s1, rl1, rp1, ?_⟩
    cases n with
    | zero => exact h1.elim
    | succ n =>
      unfold whI at h1
      cases e : ta l1 s1 with
      | bad => rw [e] at h1; exact h1.elim
      | exc c w s1 => rw [e] at h1; exact fun ρ' H' d x y z => h1 ρ' H' d σ1 x y z (rl1.mono x)
      | ok bb s2 =>
        rw [e] at h1
        refine fun ρ2 H2 v x2 rp2 rv => ?_
        cases rv
        cases bb with
        | false => exact h1 ρ2 H2 σ1 x2 rp2 (rl1.mono x2)
        | true =>
          dsimp only at h1
          refine ⟨fun σ' H' => ∃ ρ' l' s', RL G ρ' H' l' σ' ∧ Rep G ρ' p s' H' ∧ PoS G p ρ' H' (whI ta m n l' s') D E, fun σ' H' z => ⟨n, Nat.lt_succ_self n, z⟩, ρ2, l1, s2, rl1.mono x2, rp2, ?_⟩
          have h1 := PoS.base h1 x2
          cases q3 : m l1 s2 with
          | nx l4 s4 => rw [q3] at h1; exact fun ρ4 H4 σ4 x4 rp4 rl4 => ⟨ρ4, l4, s4, rl4, rp4, PoS.base h1 x4⟩
          | ct l4 s4 => rw [q3] at h1; exact fun ρ4 H4 σ4 x4 rp4 rl4 => ⟨ρ4, l4, s4, rl4, rp4, PoS.base h1 x4⟩
          | brk l4 s4 => rw [q3] at h1; exact h1
          | ret w4 s4 => rw [q3] at h1; exact h1
          | exc c w4 l4 s4 => rw [q3] at h1; exact h1
          | bad => rw [q3] at h1; exact h1
end
end CC
set_option Elab.async false
set_option linter.all false
set_option maxRecDepth 100000
/-! CCG: a def's promise where no display is under way (so that repr may be used) -/
namespace CC
open PySem PySem.Spec PyProof.Rows L2

structure FnG (P : Program) (w : World) (K : PySem.W.Frag) (mg : Str → Option Value) (base : Heap) (k : Nat) (f : Addr) (fd : FuncData) (ps : List Str) (sp : Sp) : Prop where
  len : ∀ vs H Q E, sp vs H Q E → vs.length = ps.length
  run : ∀ (A : Around) (outer : List Env) (s : Shared) (H : Hp) (args : Args) (us : List Value) (vs : List V) (Q : VK) (E : XK), Room k A → A.guards = some [] → Env0 P w K mg base A outer s H → BindsTo s fd args (ps.zip us) → Vals vs us → sp vs H Q E →
    codeAny (model P w) A (.call (.ref f) args) (CR (L2.CX P w) outer P w H s Q E) s
theorem under_guards {A : Around} {C : Addr} {us : List Value} {kw : List (Str × Value)} : (A.under (.builtin "type.__call__" ⟨.ref C :: us, kw⟩)).guards = A.guards := by
  unfold Around.under
  simp [Code.guards, Code.isGuard, guardIds, pushGuards]
section
variable {P : Program} {w : World} {K : PySem.W.Frag} {mg : Str → Option Value} {base : Heap} {k : Nat} {f : Addr} {fd : FuncData} {ps : List Str} {sp : Sp}
theorem FnG.mono {j : Nat} (F : FnG P w K mg base j f fd ps sp) (h : j ≤ k) : FnG P w K mg base k f fd ps sp :=
  ⟨F.len, fun A outer s H args us vs Q E hr hg => F.run A outer s H args us vs Q E (hr.mono h) hg⟩
/-- a def by its body -/
theorem fnG_of {name qual : Str} {params : Arguments} {body : List Stmt} {scope : Scope} {dV kV doc pm cdv ct oc : Value} {an od : Option Addr} {osl : Array (Option Value)} {N : List Str}
    (lk : K.lookup f = some ⟨oc, od, .func (PySem.W.fnOf name qual params body scope dV kV doc pm an cdv ct), osl⟩) (hcd : PySem.W.codeIn K cdv qual = true) (sc : FnScope N ps scope) (len : ∀ vs H Q E, sp vs H Q E → vs.length = ps.length)
    (hb : ∀ (A : Around) (outer : List Env) (s : Shared) (H : Hp) (vs : List V) (Q : VK) (E : XK), Room k (A.deeper (envOfC qual scope s.heap.objs.size f cdv)) → A.guards = some [] → sp vs H Q E →
      ∃ t, PSs (cxOf (L2.CX P w) P w K mg base N qual scope f cdv A outer s H E) body t ∧ t { nx := fun _ H' => Q .non H', rt := Q } (L2.start N vs) H) :
    FnG P w K mg base (k + 1) f (PySem.W.fnOf name qual params body scope dV kV doc pm an cdv ct) ps sp := by
  refine ⟨len, fun A outer s H args us vs Q E room hgd e0 bnd rel hsp => ?_⟩
  have lenv := len _ _ _ _ hsp
  have kIn : K.In s.heap := e0.mod.kin.keeps fun b o e => (e0.bs b o e).1
  have noLim : s.heap.NoLimit := e0.mod.nolimit.keeps fun b o e => (e0.bs b o e).1
  have kinds : ∀ y ∈ ps.zip us, scope.names.lookup y.1 = some .local ∨ (scope.names.lookup y.1 = some .cell ∧ ((cellsFrom (s.heap.objs.size + 1) scope.names []).lookup y.1).isSome = true) := by
    rintro ⟨n, v⟩ hy
    rcases sc.par n (List.of_mem_zip hy).1 with q | q
    · exact .inl q
    · exact .inr ⟨q, PySem.W.cellsFrom_some _ _ _ (.inl q)⟩
  refine codeAny_call_function room.depth (kIn _ _ lk) rfl sc.co sc.gen rfl (PySem.W.codeRec_of kIn hcd) (bnd _ _ _ _ ?_)
  refine wpAny_newFunctionEnv_cells sc.kind kinds fun env he s1 x => ?_
  subst he
  refine ⟨noLim.keeps x.toInCall.keep, codeAny_func ?_⟩
  obtain ⟨t, ht, hq⟩ := hb A outer s H vs Q E (room.deeper _) hgd hsp
  have I : Inv (cxOf (L2.CX P w) P w K mg base N qual scope f cdv A outer s H E) [] (L2.start N vs) H s1 := inv_start sc room.hd e0 lenv rel x
  refine wpAny_mono (ht.run [] s1 (L2.start N vs) H _ I hq) (fun fl s' hs => ?_) fun _ _ hs => hs
  cases fl with
  | ret u =>
    obtain ⟨v, σ', H', J, rv, q⟩ := hs
    exact ⟨v, H', J.os, J.bare, J.base, J.hok, rv, q⟩
  | next =>
    obtain ⟨σ', H', J, q⟩ := hs
    exact ⟨.non, H', J.os, J.bare, J.base, J.hok, rfl, q⟩
  | brk =>
    obtain ⟨_, _, _, q⟩ := hs
    exact q.elim
  | cont =>
    obtain ⟨_, _, _, q⟩ := hs
    exact q.elim
end
section
variable {X : Cx} {k : Nat} {f C : Addr} {fd : FuncData} {ps : List Str} {sp : Sp} {dvs : List V} {ds : List Value} {E : L2.St → XK} {x : Str} {p pos : Pos} {e : Expr} {es : List Expr} {t : TA}
theorem run_fnG {pins : List (Addr × Obj)} {σ : L2.St} {H : Hp} {s : Shared} {Q : VK} {us : List Value} {vs : List V} (F : FnG X.prog X.w X.K X.mg X.base k f fd ps sp) (hr : Room k X.A) (hg : X.A.guards = some []) (hb : Binds X.K fd ps ds) (hd : Vals dvs ds) (hx : PassesAt (L2.CX X.prog X.w) X σ (E σ))
    (I : Inv X pins σ H s) (r : Vals vs us) (h : sp (vs ++ dvs) H Q (E σ)) : wpAny (model X.prog X.w) X.A (call (.ref f) us) (EP X pins σ Q) X.xe s := by
  have rr : Vals (vs ++ dvs) (us ++ ds) := r.append hd
  have ln : (us ++ ds).length = ps.length := by rw [← rr.length]; exact F.len _ _ _ _ h
  have go := F.run X.A X.stack s H ⟨us, []⟩ (us ++ ds) (vs ++ dvs) Q (E σ) hr hg I.env0 (hb s us I.kIn ln) rr h
  refine wpAny_call (codeAny_mono go fun r s' hq => ?_)
  match r, hq with
  | .error e, hq => exact hx pins H s e s' I hq
  | .ok (.ret u), hq => exact I.after hq
  | .ok .next, hq => exact hq.elim
  | .ok .brk, hq => exact hq.elim
  | .ok .cont, hq => exact hq.elim
theorem pe_callG (F : FnG X.prog X.w X.K X.mg X.base k f fd ps sp) (hr : Room k X.A) (hgd : X.A.guards = some []) (hg : Gl X x) (hm : X.mg x = some (.ref f)) (hk : PySem.W.keepIn X.K (.ref f) = true) (hb : Binds X.K fd ps ds) (hd : Vals dvs ds) (hx : ∀ σ, PassesAt (L2.CX X.prog X.w) X σ (E σ))
    (ha : PA X (e :: es) t) (hdb : (x == ("__debug__" : Str)) = false) (he : starEach (e :: es) X.env = (false, eval e X.env) :: starEach es X.env) (hpl : (backTo pos (starEach es X.env)).any (·.1) = false) :
    PE X (.Call (.Name x p) (e :: es) [] pos) (tCallSD sp dvs E t) := by
  refine ⟨fun pins s σ H Q I h => wpAny_Call_Name_kw (ld_glob I hg hm ?_ hdb)⟩
  refine PySem.W.callWith_K (h₀ := X.base) I.ok.mod.kin hk (thn (ha.run pos pins s σ H _ I h) ?_) he hpl
  rintro us s1 ⟨vs, H1, I1, r, q⟩
  exact ⟨I1.kIn, run_fnG F hr hgd hb hd (hx σ) I1 r q⟩
/-- C(..), the new instance's cell given to __init__ -/
theorem run_mkG {pins : List (Addr × Obj)} {σ : L2.St} {H : Hp} {s : Shared} {Q : VK} {us : List Value} {vs : List V} (M : Mk X.K C f) (F : FnG X.prog X.w X.K X.mg X.base k f fd ps sp) (hr : Room (k + 1) X.A) (hgd : X.A.guards = some []) (hb : Binds X.K fd ps ds) (hd : Vals dvs ds)
    (hx : PassesAt (L2.CX X.prog X.w) X σ (E σ)) (I : Inv X pins σ H s) (r : Vals vs us)
    (h : ∀ x dx, H x = none → H dx = none → dx ≠ x → sp (.ref x :: (vs ++ dvs)) (upd (upd H dx (.own x)) x (.ins C dx [])) (fun v H2 => v = .non ∧ Q (.ref x) H2) (E σ)) :
    wpAny (model X.prog X.w) X.A (call (.ref C) us) (EP X pins σ Q) X.xe s := by
  have hz := h (s.heap.objs.size + 1) s.heap.objs.size (I.hok.fresh (Nat.le_succ _)) (I.hok.fresh (Nat.le_refl _)) (Nat.ne_of_lt (Nat.lt_succ_self _))
  have J := Inv.made (C := C) I
  have rr : Vals (V.ref (s.heap.objs.size + 1) :: (vs ++ dvs)) (Value.ref (s.heap.objs.size + 1) :: (us ++ ds)) := .cons rfl (r.append hd)
  have ln : (Value.ref (s.heap.objs.size + 1) :: us ++ ds).length = ps.length := by
    have e := rr.length
    rw [F.len _ _ _ _ hz] at e
    exact e.symm
  have go := F.run _ X.stack _ _ ⟨Value.ref (s.heap.objs.size + 1) :: us, []⟩ (Value.ref (s.heap.objs.size + 1) :: (us ++ ds)) _ _ (E σ) (hr.make C us []) (by rw [under_guards]; exact hgd)
      (J.env0.make C us []) (hb _ (Value.ref (s.heap.objs.size + 1) :: us) J.kIn ln) rr hz
  refine wpAny_call (make_map (f := f) I.kIn M.makes M.init (beq_iff_eq.mp M.fn) (codeAny_mono go fun r s' q => ?_))
  match r, q with
  | .error e, q => exact hx pins _ _ e s' J q
  | .ok (.ret u), q =>
    obtain ⟨v, H', J3, rv, ev, q3⟩ := J.after q
    subst ev
    exact ⟨rv, ⟨V.ref (s.heap.objs.size + 1), H', J3, rfl, q3⟩⟩
  | .ok .next, q => exact q.elim
  | .ok .brk, q => exact q.elim
  | .ok .cont, q => exact q.elim
end
end CC
set_option Elab.async false
set_option linter.all false
set_option maxRecDepth 100000
/-! CCCall: what a call leaves of its cells; the call of a def, of a method, of a class -/
namespace CC
open PySem PySem.Spec PyProof.Rows L2

/-- what is kept of the new cells: all -/
def gcS (n : Nat) (w : W) (s : S) : Option (W × S) := some (w, s)
/-- a def by its body -/
def fnI (np N : Nat) (b : Hh → Lo → S → RS) : Hh → List W → R W := fun p ws => if ws.length = np then fnB N b p ws else .bad
  where
  fnB (N : Nat) (b : Hh → Lo → S → RS) (p : Hh) (ws : List W) : R W := match b p (ws.map some ++ List.replicate (N - ws.length) none) ⟨[], []⟩ with
  | .ret w s => R.ofO (gcS p.length w s)
  | .nx _ s => R.ofO (gcS p.length .non s)
  | .exc c w _ s => (match gcS p.length w s with
    | some (w', s') => .exc c w' s'
    | none => .bad)
  | _ => .bad

/-! ### that it is sound -/
theorem gc_ok {G : GE} {p : Hh} {ρ : List Addr} {H : Hp} {ρ0 : List Addr} {H0 : Hp} {s s' : S} {w w' : W} (rp0 : Rep G ρ0 p ⟨[], []⟩ H0) (x : Ex ρ0 H0 ρ H) (rp : Rep G ρ p s H) (h : gcS p.length w s = some (w', s')) :
    ∃ ρ', Ex ρ0 H0 ρ' H ∧ Rep G ρ' p s' H ∧ (∀ v, RV G ρ H w v → RV G ρ' H w' v) ∧ ∀ a, a ∈ ρ' → a ∈ ρ := by
  cases h
  exact ⟨ρ, x, rp, fun _ h => h, fun _ h => h⟩

/-! ### a def -/
/-- np arguments, the mirror F -/
def spI (G : GE) (F : Hh → List W → R W) : Sp := fun vs H Q E => ∃ ρ p ws, RVs G ρ H ws vs ∧ Rep G ρ p ⟨[], []⟩ H ∧ PoV G p ρ H (F p ws) Q E
theorem fnI_len {G : GE} {p : Hh} {ρ : List Addr} {H : Hp} {np N : Nat} {b : Hh → Lo → S → RS} {ws : List W} {Q : VK} {E : XK} (h : PoV G p ρ H (fnI np N b p ws) Q E) : ws.length = np ∧ PoV G p ρ H (fnI.fnB N b p ws) Q E := by
  unfold fnI at h
  split at h
  · rename_i hl; exact ⟨hl, h⟩
  · exact h.elim
theorem start_rl {G : GE} {ρ : List Addr} {H : Hp} {ws : List W} {vs : List V} {N : List Str} (r : RVs G ρ H ws vs) (hj : G.J ρ (L2.start N vs) H) : RL G ρ H (ws.map some ++ List.replicate (N.length - ws.length) none) (L2.start N vs) := by
  refine ⟨by unfold L2.start; simp [r.len], fun i w e => ?_, hj⟩
  unfold L2.start
  by_cases hi : i < ws.length
  · rw [List.getElem?_append_left (by simpa using hi), List.getElem?_map] at e
    cases q : ws[i]? with
    | none => rw [q] at e; cases e
    | some w' =>
      rw [q] at e
      cases e
      obtain ⟨v, h1, h2⟩ := r.get q
      refine ⟨v, ?_, h2⟩
      rw [List.getElem?_append_left (by rw [List.length_map, ← r.len]; exact hi), List.getElem?_map, h1]
      rfl
  · rw [List.getElem?_append_right (by simpa using Nat.le_of_not_lt hi)] at e
    have e' := List.mem_of_getElem? e
    have := List.eq_of_mem_replicate e'
    cases this
theorem RX.less {G : GE} {ρ ρ' : List Addr} {H : Hp} {c : Nat} {w w' : W} {d : Option Addr} (sub : ∀ a, a ∈ ρ' → a ∈ ρ) (h : ∀ v, RV G ρ H w v → RV G ρ' H w' v) (r : RX G ρ H c w d) : RX G ρ' H c w' d := by
  unfold RX at *
  split
  · trivial
  · rename_i f hf
    rw [hf] at r
    obtain ⟨dd, v, e1, n, e2, q⟩ := r
    exact ⟨dd, v, e1, fun m => n (sub _ m), e2, h v q⟩
/-- a body's end is a def's end -/
theorem fnI_ok {G : GE} {p : Hh} {ρ : List Addr} {H : Hp} {N : Nat} {b : Hh → Lo → S → RS} {ws : List W} {Q : VK} {E : XK} (rp : Rep G ρ p ⟨[], []⟩ H) (h : PoV G p ρ H (fnI.fnB N b p ws) Q E) :
    PoS G p ρ H (b p (ws.map some ++ List.replicate (N - ws.length) none) ⟨[], []⟩) { nx := fun _ H' => Q .non H', rt := Q } (fun c d _ H' => E c d H') := by
  unfold fnI.fnB at h
  cases e : b p (ws.map some ++ List.replicate (N - ws.length) none) ⟨[], []⟩ with
  | ret w s =>
    rw [e] at h
    intro ρ1 H1 v x rp1 rv
    dsimp only at h
    cases q : gcS p.length w s with
    | none => rw [q] at h; exact h.elim
    | some z =>
      obtain ⟨w', s'⟩ := z
      rw [q] at h
      obtain ⟨ρ', x', rp', hv, _⟩ := gc_ok rp x rp1 q
      exact h ρ' H1 v x' rp' (hv v rv)
  | nx l s =>
    rw [e] at h
    intro ρ1 H1 v x rp1 rv
    dsimp only at h
    cases q : gcS p.length .non s with
    | none => rw [q] at h; exact h.elim
    | some z =>
      obtain ⟨w', s'⟩ := z
      rw [q] at h
      obtain ⟨ρ', x', rp', hv, _⟩ := gc_ok rp x rp1 q
      exact h ρ' H1 _ x' rp' (hv _ .non)
  | exc c w l s =>
    rw [e] at h
    intro ρ1 H1 d σ' x rp1 rx rl
    dsimp only at h
    cases q : gcS p.length w s with
    | none => rw [q] at h; exact h.elim
    | some z =>
      obtain ⟨w', s'⟩ := z
      rw [q] at h
      obtain ⟨ρ', x', rp', hv, sub⟩ := gc_ok rp x rp1 q
      exact h ρ' H1 d x' rp' (rx.less sub hv)
  | brk l s => rw [e] at h; exact h.elim
  | ct l s => rw [e] at h; exact h.elim
  | bad => rw [e] at h; exact h.elim
section
variable {P : Program} {w : World} {K : PySem.W.Frag} {mg : Str → Option Value} {base : Heap} {G : GE}
abbrev XOf (P : Program) (w : World) (K : PySem.W.Frag) (mg : Str → Option Value) (base : Heap) (N : List Str) (qual : Str) (sc : Scope) (f : Addr) (cdv : Value) (A : Around) (outer : List Env) (s : Shared) (H : Hp) (E : XK) : Cx :=
  cxOf (L2.CX P w) P w K mg base N qual sc f cdv A outer s H E
theorem cn_of {N : List Str} {qual : Str} {sc : Scope} {f : Addr} {cdv : Value} {A : Around} {outer : List Env} {s : Shared} {H : Hp} {E : XK} {k : Nat} (nd : N.Nodup) (hr : Room k (A.deeper (envOfC qual sc s.heap.objs.size f cdv))) (hg : A.guards = some []) :
    Cn (XOf P w K mg base N qual sc f cdv A outer s H E) (fun c d _ H' => E c d H') k :=
  ⟨rfl, hr, takes_of rfl rfl rfl rfl, passes_of rfl, nd, hg⟩
theorem fn_ok (hJ : ∀ ρ σ H, G.J ρ σ H) {x qual : Str} {st : Stmt} {f : Addr} {fd : FuncData} {N ps : List Str} {k : Nat} {b : Hh → Lo → S → RS} (F : Fun K x qual st f fd) (sc : FnScope N ps (defScope st))
    (hb : ∀ (cdv : Value) (A : Around) (outer : List Env) (s : Shared) (H : Hp) (E : XK) (p : Hh), Cn (XOf P w K mg base N qual (defScope st) f cdv A outer s H E) (fun c d _ H' => E c d H') k →
      SB G p (fun c d _ H' => E c d H') (XOf P w K mg base N qual (defScope st) f cdv A outer s H E) (defBody st) (b p)) :
    FnG P w K mg base (k + 1) f fd ps (spI G (fnI ps.length N.length b)) := by
  obtain ⟨oc, od, kV, doc, pm, an, cdv, ct, osl, rfl, lk, hcd⟩ := F.ex
  refine fnG_of lk hcd sc (fun vs H Q E h => ?_) fun A outer s H vs Q E hr hg h => ?_
  · obtain ⟨ρ, p, ws, rv, rp, h⟩ := h
    rw [← rv.len]; exact (fnI_len h).1
  obtain ⟨ρ, p, ws, rv, rp, h⟩ := h
  exact ⟨_, hb cdv A outer s H E p (cn_of sc.nd hr hg), ρ, _, _, start_rl rv (hJ _ _ _), rp, fnI_ok rp (fnI_len h).2⟩
theorem fn_okD (hJ : ∀ ρ σ H, G.J ρ σ H) {x qual : Str} {st : Stmt} {f : Addr} {fd : FuncData} {N ps : List Str} {k : Nat} {b : Hh → Lo → S → RS} {dvs : List V} {kws : List (Str × V)} (F : FunD K x qual (defArgs st) (defBody st) (defScope st) dvs kws f fd) (sc : FnScope N ps (defScope st))
    (hb : ∀ (cdv : Value) (A : Around) (outer : List Env) (s : Shared) (H : Hp) (E : XK) (p : Hh), Cn (XOf P w K mg base N qual (defScope st) f cdv A outer s H E) (fun c d _ H' => E c d H') k →
      SB G p (fun c d _ H' => E c d H') (XOf P w K mg base N qual (defScope st) f cdv A outer s H E) (defBody st) (b p)) :
    FnG P w K mg base (k + 1) f fd ps (spI G (fnI ps.length N.length b)) := by
  obtain ⟨oc, od, dV, kV, doc, pm, an, cdv, ct, osl, rfl, lk, hcd, _, _⟩ := F.ex
  refine fnG_of lk hcd sc (fun vs H Q E h => ?_) fun A outer s H vs Q E hr hg h => ?_
  · obtain ⟨ρ, p, ws, rv, rp, h⟩ := h
    rw [← rv.len]; exact (fnI_len h).1
  obtain ⟨ρ, p, ws, rv, rp, h⟩ := h
  exact ⟨_, hb cdv A outer s H E p (cn_of sc.nd hr hg), ρ, _, _, start_rl rv (hJ _ _ _), rp, fnI_ok rp (fnI_len h).2⟩
end
end CC
set_option Elab.async false
set_option linter.all false
set_option maxRecDepth 100000
/-! CCUp: a call that is given only what its arguments speak of is sound -/
namespace CC
open PySem PySem.Spec PyProof.Rows L2
section
variable {G : GE} {p : Hh} {ρ : List Addr} {H : Hp} {s : S}
theorem rep_mat (rp : Rep G ρ p s H) : Rep G ρ (mat p s) ⟨[], []⟩ H :=
  ⟨by rw [rp.len]; show _ = (mat p s).length + 0; rw [mat_len]; rfl, rp.nd, fun n o h => rp.has n o (by rw [← rd_mat]; exact h)⟩
theorem rep_mrg {s' : S} (rp : Rep G ρ (mat p s) s' H) : Rep G ρ p (mrg p s s') H :=
  ⟨by rw [rp.len, nxt_mrg], rp.nd, fun n o h => rp.has n o (by rw [← rd_mrg]; exact h)⟩
theorem callF_ok {F : Hh → List W → R W} {xs : List W} {vs : List V} {Q : VK} {E : XK} (rv : RVs G ρ H xs vs) (rp : Rep G ρ p s H) (h : PoV G p ρ H (callF F p xs s) Q E) : ∃ ρc pc ws, RVs G ρc H ws vs ∧ Rep G ρc pc ⟨[], []⟩ H ∧ PoV G pc ρc H (F pc ws) Q E := by
  refine ⟨ρ, mat p s, xs, rv, rep_mat rp, ?_⟩
  unfold callF at h
  cases q : F (mat p s) xs with
  | bad => rw [q] at h; exact h
  | ok w s' =>
    rw [q] at h
    intro ρ' H' v x rp' rv'
    exact h ρ' H' v x (rep_mrg rp') rv'
  | exc c w s' =>
    rw [q] at h
    intro ρ' H' d x rp' rx
    exact h ρ' H' d x (rep_mrg rp') rx
end
end CC
set_option Elab.async false
set_option linter.all false
set_option maxRecDepth 100000
/-! CCCall2: calls -/
namespace CC
open PySem PySem.Spec PyProof.Rows L2

/-! ### rules -/
section
variable {G : GE} {p : Hh} {E : WX} {X : Cx} {k np : Nat} {pos p' apos : Pos} {a o : Expr} {es : List Expr} {mo : Lo → S → R W} {mr : Lo → S → R (List W)} {Fm : Hh → List W → R W} {f C : Addr} {fd : FuncData} {ps : List Str} {x : Str} {dvs : List V} {dws : List W} {ds : List Value}
/-- a def of the text as it may be called: the last ones of its parameters by their defaults dws -/
structure FC (G : GE) (P : Program) (w : World) (K : PySem.W.Frag) (mg : Str → Option Value) (base : Heap) (k : Nat) (f : Addr) (Fm : Hh → List W → R W) (dws : List W) : Prop where
  ex : ∃ (fd : FuncData) (ps : List Str) (dvs : List V) (ds : List Value), FnG P w K mg base k f fd ps (spI G Fm) ∧ Binds K fd ps ds ∧ Vals dvs ds ∧ (∀ ρ H, RVs G ρ H dws dvs)
  kp : PySem.W.keepIn K (.ref f) = true
/-- the callee's wish -/
theorem sp_of {ρ : List Addr} {H : Hp} {s : S} {xs : List W} {vs : List V} {Q : VK} {E : XK} (rv : RVs G ρ H xs vs) (rp : Rep G ρ p s H) (h : PoV G p ρ H (callF Fm p xs s) Q E) : spI G Fm vs H Q E := callF_ok rv rp h
theorem se_call (FF : FC G X.prog X.w X.K X.mg X.base k f Fm dws) (cn : Cn X E k) (hm : X.mg x = some (.ref f)) (ha : SA G p E X (a :: es) mr) (hg : Gl X x := by rfl) (hdb : (x == ("__debug__" : Str)) = false := by decide)
    (he : starEach (a :: es) X.env = (false, eval a X.env) :: starEach es X.env := by rfl) (hpl : (backTo pos (starEach es X.env)).any (·.1) = false := by rfl) : SE G p E X (.Call (.Name x p') (a :: es) [] pos) (eCall Fm p dws mr) := by
  obtain ⟨fd, ps, dvs, ds, F, hb, hd, rd⟩ := FF.ex
  exact PE_imp (pe_callG (E := WE E) F cn.room cn.gd hg hm FF.kp hb hd (fun σ => passAt cn.tk σ) ha hdb he hpl) fun σ H Q ⟨ρ, l, s, rl, rp, h⟩ =>
    ⟨ρ, l, s, rl, rp, PoA.bind h fun xs s1 ρ1 H1 vs x1 rp1 rv1 h1 => sp_of (rv1.app (rd ρ1 H1)) rp1 h1⟩
theorem se_call0 (FF : FC G X.prog X.w X.K X.mg X.base k f Fm dws) (cn : Cn X E k) (hm : X.mg x = some (.ref f)) (hg : Gl X x := by rfl) (hdb : (x == ("__debug__" : Str)) = false := by decide) : SE G p E X (.Call (.Name x p') [] [] pos) (eCall Fm p dws aNil) := by
  obtain ⟨fd, ps, dvs, ds, F, hb, hd, rd⟩ := FF.ex
  refine ⟨fun pins s σ H Q I ⟨ρ, l, s0, rl, rp, h⟩ => ?_⟩
  refine wpAny_Call_Name_kw (ld_glob I hg hm ?_ hdb)
  exact PySem.W.callWith_K0 I.kIn FF.kp (run_fnG (us := []) (vs := []) (dvs := dvs) (E := WE E) F cn.room cn.gd hb hd (passAt cn.tk σ) I .nil (sp_of (rd ρ H) rp h))
/-- what a class of objects must have -/
structure CC_ (G : GE) (K : PySem.W.Frag) (c : Nat) : Prop where
  cl : Cls K (G.cls c)
  no : ∀ f ∈ G.fld c, NoAttr K (G.cls c) f
theorem zip_lookup_none {l : List Str} {vs : List V} {m : Str} (h : m ∉ l) : (l.zip vs).lookup m = none := by
  induction l generalizing vs with
  | nil => rfl
  | cons a r ih =>
    cases vs with
    | nil => rfl
    | cons v vs =>
      have ne : (m == a) = false := by simpa using fun e => h (by rw [e]; exact List.mem_cons_self ..)
      simp only [List.zip_cons_cons, List.lookup, ne]
      exact ih fun z => h (List.mem_cons_of_mem _ z)
theorem keys_lookup_none {gs : List (Str × V)} {m : Str} (h : m ∉ gs.map (·.1)) : gs.lookup m = none := by
  induction gs with
  | nil => rfl
  | cons a r ih =>
    obtain ⟨a, v⟩ := a
    have ne : (m == a) = false := by simpa using fun e => h (by rw [e]; exact List.mem_cons_self ..)
    simp only [List.lookup, ne]
    exact ih fun z => h (List.mem_cons_of_mem _ z)
/-- an object of the class c, as the layer has it -/
theorem obj_at {ρ : List Addr} {H : Hp} {s : S} {c : Nat} {w : W} {v : V} (rp : Rep G ρ p s H) (rv : RV G ρ H w v) (h : isC p s c w = true) : ∃ a dx gs, v = .ref a ∧ H a = some (.ins (G.cls c) dx gs) ∧ ∀ m, m ∉ G.fld c → gs.lookup m = none := by
  cases rv with
  | @ref n a e =>
    simp only [isC] at h
    cases q : rd p s n with
    | none => rw [q] at h; cases h
    | some o =>
      rw [q] at h
      obtain ⟨u, hu, ro⟩ := rp.at q e
      cases ro with
      | @ins d fs gs dx k r =>
        have e : d = c := by simpa using h
        subst e
        refine ⟨a, dx, gs, rfl, hu, fun m hm => keys_lookup_none fun z => hm ?_⟩
        obtain ⟨q, hq, e2⟩ := List.mem_map.mp z
        have : some m ∈ gs.map (fun p => some p.1) := List.mem_map.mpr ⟨q, hq, by rw [e2]⟩
        rw [← k] at this
        obtain ⟨i, _, e3⟩ := List.mem_map.mp this
        exact List.mem_of_getElem? e3
      | _ => cases h
  | _ => cases h
theorem se_meth {c : Nat} {m : Str} {pl : Sem Bool} (T : CC_ G X.K c) (hm : Meth X.K (G.cls c) m f) (hmf : m ∉ G.fld c) (FF : FC G X.prog X.w X.K X.mg X.base k f Fm dws) (cn : Cn X E k) (ho : SE G p E X o mo) (ha : SA G p E X (a :: es) mr)
    (hst : starEach (a :: es) X.env = (false, eval a X.env) :: starEach es X.env := by rfl) (hpl : (backTo pos (starEach es X.env)).any (·.1) = false := by rfl)
    (ht : eval (.Call (.Attribute o m apos) (a :: es) [] pos) X.env = (do
      let ov ← eval o X.env
      standAt apos.atName
      let (f, first) ← holding [ov] (getMethod ov m pl)
      callWith pos f first (backTo pos (starEach (a :: es) X.env)) (backToKw pos (keywordEach [] X.env))) := by rfl) : SE G p E X (.Call (.Attribute o m apos) (a :: es) [] pos) (eMeth c Fm p dws mo mr) := by
  obtain ⟨fd, ps, dvs, ds, F, hb, hd, rdf⟩ := FF.ex
  refine ⟨fun pins s σ H Q I ⟨ρ, l, s0, rl, rp, h⟩ => ?_⟩
  unfold eMeth at h
  have h2 := PoA.bind (rel := RV G) (Q := fun v H1 => ∃ ρ1 s1 w, RL G ρ1 H1 l σ ∧ Rep G ρ1 p s1 H1 ∧ RV G ρ1 H1 w v ∧ PoV G p ρ1 H1 (match isC p s1 c w with
    | true => (mr l s1).bind fun xs s2 => callF Fm p (w :: (xs ++ dws)) s2
    | false => .bad) Q (fun c d H' => E c d σ H')) h fun w s1 ρ1 H1 v x1 rp1 rv1 h1 => ⟨ρ1, s1, w, rl.mono x1, rp1, rv1, h1⟩
  refine PySem.W.methodCall_KW (pl := pl) (thn (ho.run pins s σ H _ I ⟨ρ, l, s0, rl, rp, h2⟩) fun u s1 ⟨v, H1, I1, ru, ρ1, s2, w, rl1, rp1, rv1, h3⟩ => ?_) ht
  cases q : isC p s2 c w with
  | false => rw [q] at h3; exact h3.elim
  | true =>
    rw [q] at h3
    obtain ⟨a', dx, gs, ev, ea, hl⟩ := obj_at rp1 rv1 q
    subst ev
    obtain rfl : u = Value.ref a' := ru
    refine getmeth_ok I1 ea T.cl hm (hl m hmf) ?_
    have h4 := PoA.bind (rel := RVs G) (Q := fun vs H2 => spI G Fm (.ref a' :: (vs ++ dvs)) H2 Q (WE E σ)) h3 fun xs s3 ρ2 H2 vs x2 rp2 rv2 h5 => sp_of (.cons (rv1.mono x2) (rv2.app (rdf ρ2 H2))) rp2 h5
    refine PySem.W.callWith_K (first := [.ref a']) (h₀ := X.base) I1.ok.mod.kin hm.kp (thn (ha.run pos pins s1 σ H1 _ I1 ⟨ρ1, l, s2, rl1, rp1, h4⟩) fun us s3 ⟨vs, H2, I2, r, q2⟩ => ⟨I2.kIn, ?_⟩) hst hpl
    exact run_fnG (us := .ref a' :: us) (vs := .ref a' :: vs) (E := WE E) F cn.room cn.gd hb hd (passAt cn.tk σ) I2 (.cons rfl r) q2
theorem se_meth0 {c : Nat} {m : Str} {pl : Sem Bool} (T : CC_ G X.K c) (hm : Meth X.K (G.cls c) m f) (hmf : m ∉ G.fld c) (FF : FC G X.prog X.w X.K X.mg X.base k f Fm dws) (cn : Cn X E k) (ho : SE G p E X o mo)
    (ht : eval (.Call (.Attribute o m apos) [] [] pos) X.env = (do
      let ov ← eval o X.env
      standAt apos.atName
      let (f, first) ← holding [ov] (getMethod ov m pl)
      callWith pos f first (backTo pos (starEach [] X.env)) (backToKw pos (keywordEach [] X.env))) := by rfl) : SE G p E X (.Call (.Attribute o m apos) [] [] pos) (eMeth c Fm p dws mo aNil) := by
  obtain ⟨fd, ps, dvs, ds, F, hb, hd, rdf⟩ := FF.ex
  refine ⟨fun pins s σ H Q I ⟨ρ, l, s0, rl, rp, h⟩ => ?_⟩
  unfold eMeth at h
  have h2 := PoA.bind (rel := RV G) (Q := fun v H1 => ∃ ρ1 s1 w, RL G ρ1 H1 l σ ∧ Rep G ρ1 p s1 H1 ∧ RV G ρ1 H1 w v ∧ PoV G p ρ1 H1 (match isC p s1 c w with
    | true => (aNil l s1).bind fun xs s2 => callF Fm p (w :: (xs ++ dws)) s2
    | false => .bad) Q (fun c d H' => E c d σ H')) h fun w s1 ρ1 H1 v x1 rp1 rv1 h1 => ⟨ρ1, s1, w, rl.mono x1, rp1, rv1, h1⟩
  refine PySem.W.methodCall_KW (pl := pl) (thn (ho.run pins s σ H _ I ⟨ρ, l, s0, rl, rp, h2⟩) fun u s1 ⟨v, H1, I1, ru, ρ1, s2, w, rl1, rp1, rv1, h3⟩ => ?_) ht
  cases q : isC p s2 c w with
  | false => rw [q] at h3; exact h3.elim
  | true =>
    rw [q] at h3
    obtain ⟨a', dx, gs, ev, ea, hl⟩ := obj_at rp1 rv1 q
    subst ev
    obtain rfl : u = Value.ref a' := ru
    refine getmeth_ok I1 ea T.cl hm (hl m hmf) ?_
    exact PySem.W.callWith_K0 (first := [.ref a']) I1.kIn hm.kp (run_fnG (us := [.ref a']) (vs := [.ref a']) (dvs := dvs) (E := WE E) F cn.room cn.gd hb hd (passAt cn.tk σ) I1 (.cons rfl .nil) (sp_of (.cons rv1 (rdf ρ1 H1)) rp1 h3))
end
end CC
set_option Elab.async false
set_option linter.all false
set_option maxRecDepth 100000
/-! CCObj: making objects, attributes -/
namespace CC
open PySem PySem.Spec PyProof.Rows L2

/-! ### attributes -/
def lookF (i : Nat) : List (Nat × W) → Option W
  | [] => none
  | (j, w) :: r => if i = j then some w else lookF i r
def putW (i : Nat) (w : W) : List (Nat × W) → List (Nat × W)
  | [] => [(i, w)]
  | (j, u) :: r => if j = i then (j, w) :: r else (j, u) :: putW i w r
/-- e.f, f the i-th field of the class c -/
def eFld (c i : Nat) (p : Hh) (mo : Lo → S → R W) : Lo → S → R W := fun l s => (mo l s).bind fun o s1 => match o with
  | .ref n => (match rd p s1 n with
    | some (.ins d fs) => if d = c then (match lookF i fs with | some w => .ok w s1 | none => .bad) else .bad
    | _ => .bad)
  | _ => .bad
/-- e.f = v -/
def sFldA (c i : Nat) (p : Hh) (mo me : Lo → S → R W) : Lo → S → RS := fun l s => (me l s).toS l fun w s1 => (mo l s1).toS l fun o s2 => match o with
  | .ref n => (match rd p s2 n with
    | some (.ins d fs) => if d = c ∧ fs.length < 900 then .nx l (wr p s2 n (.ins c (putW i w fs))) else .bad
    | _ => .bad)
  | _ => .bad
section
variable {G : GE} {p : Hh} {E : WX} {X : Cx} {k : Nat} {pos p' apos pos' : Pos} {a o : Expr} {es : List Expr} {mo ma : Lo → S → R W} {mr : Lo → S → R (List W)} {Fm : Hh → List W → R W} {f C : Addr} {x : Str} {dws : List W} {ρ : List Addr} {H : Hp} {s : S}
theorem zip_lookup {l : List Str} {vs : List V} {i : Nat} {f : Str} {v : V} (nd : l.Nodup) (hi : l[i]? = some f) (hv : vs[i]? = some v) : (l.zip vs).lookup f = some v := by
  induction l generalizing vs i with
  | nil => simp at hi
  | cons a r ih =>
    cases vs with
    | nil => simp at hv
    | cons u vs =>
      cases i with
      | zero =>
        simp at hi hv
        subst hi hv
        simp [List.lookup]
      | succ i =>
        have hi' : r[i]? = some f := by simpa using hi
        have nr : a ∉ r := (List.nodup_cons.mp nd).1
        have ne' : f ≠ a := fun e => nr (by rw [← e]; exact List.mem_of_getElem? hi')
        have ne : (f == a) = false := by simpa using ne'
        simp only [List.zip_cons_cons, List.lookup, ne]
        exact ih (List.nodup_cons.mp nd).2 hi' (by simpa using hv)
/-- the fields of a cell, by name -/
theorem fields_lookup {nm : List Str} (nd : nm.Nodup) {i : Nat} {f : Str} (hi : nm[i]? = some f) : ∀ {fs : List (Nat × W)} {gs : List (Str × V)} {w : W}, fs.map (fun q => nm[q.1]?) = gs.map (fun q => some q.1) → RVs G ρ H (fs.map (·.2)) (gs.map (·.2)) → lookF i fs = some w → ∃ v, gs.lookup f = some v ∧ RV G ρ H w v
  | [], _, _, _, _, h => by cases h
  | (j, u) :: fs, [], _, k, _, _ => by simp at k
  | (j, u) :: fs, (g, y) :: gs, w, k, r, h => by
    simp only [List.map_cons, List.cons.injEq] at k
    obtain ⟨k1, k2⟩ := k
    cases r with
    | cons r1 r2 =>
      simp only [lookF] at h
      by_cases e : i = j
      · rw [if_pos e] at h
        cases h
        subst e
        rw [hi] at k1
        cases k1
        exact ⟨y, by simp [List.lookup], r1⟩
      · rw [if_neg e] at h
        obtain ⟨v, h1, h2⟩ := fields_lookup nd hi k2 r2 h
        refine ⟨v, ?_, h2⟩
        have ne : (f == g) = false := by
          have : f ≠ g := fun z => by
            subst z
            exact e (nodup_ix nd hi k1)
          simpa using this
        simp only [List.lookup, ne]
        exact h1
theorem fields_put {nm : List Str} (nd : nm.Nodup) {i : Nat} {f : Str} (hi : nm[i]? = some f) {w : W} {v : V} (rw' : RV G ρ H w v) : ∀ {fs : List (Nat × W)} {gs : List (Str × V)}, fs.map (fun q => nm[q.1]?) = gs.map (fun q => some q.1) → RVs G ρ H (fs.map (·.2)) (gs.map (·.2)) →
    (putW i w fs).map (fun q => nm[q.1]?) = (putF f v gs).map (fun q => some q.1) ∧ RVs G ρ H ((putW i w fs).map (·.2)) ((putF f v gs).map (·.2))
  | [], [], _, _ => by
    unfold putW putF
    simp only [List.map_cons, List.map_nil, hi]
    exact ⟨trivial, .cons rw' .nil⟩
  | [], _ :: _, k, _ => by simp at k
  | (j, u) :: fs, [], k, _ => by simp at k
  | (j, u) :: fs, (g, y) :: gs, k, r => by
    simp only [List.map_cons, List.cons.injEq] at k
    obtain ⟨k1, k2⟩ := k
    cases r with
    | cons r1 r2 =>
      unfold putW putF
      by_cases e : j = i
      · subst e
        rw [hi] at k1
        cases k1
        simp only [if_true, List.map_cons, hi, k2]
        exact ⟨trivial, .cons rw' r2⟩
      · have ne : ¬ g = f := fun z => by
          subst z
          exact e (nodup_ix nd k1 hi)
        rw [if_neg e, if_neg ne]
        obtain ⟨h1, h2⟩ := fields_put nd hi rw' k2 r2
        simp only [List.map_cons, k1, h1]
        exact ⟨trivial, .cons r1 h2⟩
theorem se_fld {c i : Nat} {f : Str} (T : CC_ G X.K c) (nd : (G.fld c).Nodup) (hi : (G.fld c)[i]? = some f) (ho : SE G p E X o mo) (hb : attributeBase o f X.env (eval o X.env) = eval o X.env := by rfl) : SE G p E X (.Attribute o f pos) (eFld c i p mo) :=
  PE_imp (pe_fld ho hb) fun σ H Q ⟨ρ, l, s, rl, rp, h⟩ => by
    unfold eFld at h
    refine ⟨ρ, l, s, rl, rp, PoA.bind h fun w s1 ρ1 H1 v x1 rp1 rv1 h1 => ?_⟩
    cases rv1 with
    | @ref n a e =>
      dsimp only at h1
      cases q : rd p s1 n with
      | none => rw [q] at h1; exact h1.elim
      | some ob =>
        rw [q] at h1
        obtain ⟨u, hu, ro⟩ := rp1.at q e
        cases ro with
        | @ins d fs gs dx k r =>
          dsimp only at h1
          by_cases e : d = c
          · subst e
            rw [if_pos rfl] at h1
            cases q2 : lookF i fs with
            | none => rw [q2] at h1; exact h1.elim
            | some w =>
              rw [q2] at h1
              obtain ⟨v, hv, rv⟩ := fields_lookup nd hi k r q2
              exact ⟨a, _, dx, _, v, rfl, hu, T.cl, T.no f (List.mem_of_getElem? hi), hv, h1 ρ1 H1 v Ex.rfl' rp1 rv⟩
          · rw [if_neg e] at h1; exact h1.elim
        | _ => exact h1.elim
    | _ => exact h1.elim
theorem ss_fld {c i : Nat} {f : Str} (T : CC_ G X.K c) (nd : (G.fld c).Nodup) (hi : (G.fld c)[i]? = some f) (ho : SE G p E X o mo) (ha : SE G p E X a ma) (hs : swapsWith a (some (.Attribute o f pos')) pos.line X.env = pure false := by rfl) : SS G p E X (.Assign [.Attribute o f pos'] a pos) (sFldA c i p mo ma) :=
  PS_imp (ps_fld ho ha hs) fun D σ H ⟨ρ, l, s, rl, rp, h⟩ => by
    unfold sFldA at h
    refine ⟨ρ, l, s, rl, rp, PoS.val rl h fun w s1 ρ1 H1 v x1 rp1 rv1 h1 => ⟨ρ1, l, s1, rl.mono x1, rp1, PoS.val (rl.mono x1) h1 fun w2 s2 ρ2 H2 v2 x2 rp2 rv2 h2 => ?_⟩⟩
    cases rv2 with
    | @ref n a e =>
      dsimp only at h2
      cases q : rd p s2 n with
      | none => rw [q] at h2; exact h2.elim
      | some ob =>
        rw [q] at h2
        obtain ⟨u, hu, ro⟩ := rp2.at q e
        cases ro with
        | @ins d fs gs dx k r =>
          dsimp only at h2
          by_cases e2 : d = c ∧ fs.length < 900
          · rw [if_pos e2] at h2
            obtain ⟨rfl, hl⟩ := e2
            have gl : gs.length = fs.length := by simpa using (congrArg List.length k).symm
            refine ⟨a, _, dx, gs, rfl, hu, T.cl, T.no f (List.mem_of_getElem? hi), by omega, ?_⟩
            have xx : Ex ρ2 H2 ρ2 (upd H2 a (.ins (G.cls d) dx (putF f v gs))) := ⟨⟨[], by simp⟩, fun _ h n => absurd h n, fun b o n h => by
              have nb : b ≠ a := fun z => n (by rw [z]; exact List.mem_of_getElem? e)
              rw [upd_ne nb]; exact h⟩
            obtain ⟨k2, r2⟩ := fields_put nd hi ((rv1.mono x2).mono xx) k (r.mono xx)
            obtain ⟨_, rp3⟩ := rp2.wr_ e (o := .ins d (putW i w fs)) (.ins k2 r2)
            exact h2 ρ2 _ σ xx rp3 (((rl.mono x1).mono x2).mono xx)
          · rw [if_neg e2] at h2; exact h2.elim
        | _ => exact h2.elim
    | _ => exact h2.elim

/-! ### making -/
theorem makeM_ok {c : Nat} {ρ : List Addr} {H : Hp} {s : S} {xs : List W} {vs : List V} {Q : VK} {E1 : XK} (rp : Rep G ρ p s H) (rv : RVs G ρ H xs vs) (h : PoV G p ρ H (makeM c Fm p xs s) Q E1) {q dx : Addr} (hq : H q = none) (hdx : H dx = none) (ne : dx ≠ q) :
    spI G Fm (.ref q :: vs) (upd (upd H dx (.own q)) q (.ins (G.cls c) dx [])) (fun v H2 => v = .non ∧ Q (.ref q) H2) E1 := by
  have xd : Ex ρ H ρ (upd H dx (.own q)) := Ex.fresh rp hdx
  have rpd := rp.fresh (u := .own q) hdx
  have hq2 : upd H dx (.own q) q = none := by rw [upd_ne (Ne.symm ne)]; exact hq
  obtain ⟨x2, rp2, rv2⟩ := rpd.al_ (o := .ins c []) (u := .ins (G.cls c) dx []) hq2 (.ins rfl .nil)
  have x02 := xd.trans x2
  refine sp_of (p := p) (s := al s (.ins c [])) (.cons rv2 (rv.mono x02)) rp2 ?_
  unfold makeM at h
  cases e : callF Fm p (.ref (nxt p s) :: xs) (al s (.ins c [])) with
  | bad => rw [e] at h; exact h.elim
  | exc d w s' => rw [e] at h; exact fun ρ' H' dd y rp' rx => h ρ' H' dd (x02.trans y) rp' rx
  | ok w s' =>
    rw [e] at h
    cases w with
    | non =>
      intro ρ' H' v y rp' rv'
      cases rv'
      exact ⟨rfl, h ρ' H' _ (x02.trans y) rp' (rv2.mono y)⟩
    | _ => exact h.elim
theorem se_makeM {c : Nat} (M : Mk X.K (G.cls c) f) (FF : FC G X.prog X.w X.K X.mg X.base k f Fm dws) (cn : Cn X E (k + 1)) (hm : X.mg x = some (.ref (G.cls c))) (ha : SA G p E X (a :: es) mr) (hg : Gl X x := by rfl) (hdb : (x == ("__debug__" : Str)) = false := by decide)
    (he : starEach (a :: es) X.env = (false, eval a X.env) :: starEach es X.env := by rfl) (hpl : (backTo pos (starEach es X.env)).any (·.1) = false := by rfl) : SE G p E X (.Call (.Name x p') (a :: es) [] pos) (eMakeM c Fm p dws mr) := by
  obtain ⟨fd, ps, dvs, ds, F, hb, hd, rdf⟩ := FF.ex
  refine ⟨fun pins s σ H Q I ⟨ρ, l, s0, rl, rp, h⟩ => ?_⟩
  refine wpAny_Call_Name_kw (ld_glob I hg hm ?_ hdb)
  have h2 := PoA.bind (rel := RVs G) (Q := fun vs H1 => ∀ x dx, H1 x = none → H1 dx = none → dx ≠ x → spI G Fm (.ref x :: (vs ++ dvs)) (upd (upd H1 dx (.own x)) x (.ins (G.cls c) dx [])) (fun v H2 => v = .non ∧ Q (.ref x) H2) (WE E σ)) h fun xs s1 ρ1 H1 vs x1 rp1 rv1 h1 => fun q dx hq hdx ne => makeM_ok rp1 (rv1.app (rdf ρ1 H1)) h1 hq hdx ne
  refine PySem.W.callWith_K (h₀ := X.base) I.ok.mod.kin M.kp (thn (ha.run pos pins s σ H _ I ⟨ρ, l, s0, rl, rp, h2⟩) fun us s1 ⟨vs, H1, I1, r, q⟩ => ⟨I1.kIn, ?_⟩) he hpl
  exact run_mkG (E := WE E) M F cn.room cn.gd hb hd (passAt cn.tk σ) I1 r q
theorem se_makeM0 {c : Nat} (M : Mk X.K (G.cls c) f) (FF : FC G X.prog X.w X.K X.mg X.base k f Fm dws) (cn : Cn X E (k + 1)) (hm : X.mg x = some (.ref (G.cls c))) (hg : Gl X x := by rfl) (hdb : (x == ("__debug__" : Str)) = false := by decide) : SE G p E X (.Call (.Name x p') [] [] pos) (eMakeM c Fm p dws aNil) := by
  obtain ⟨fd, ps, dvs, ds, F, hb, hd, rdf⟩ := FF.ex
  refine ⟨fun pins s σ H Q I ⟨ρ, l, s0, rl, rp, h⟩ => ?_⟩
  refine wpAny_Call_Name_kw (ld_glob I hg hm ?_ hdb)
  exact PySem.W.callWith_K0 I.kIn M.kp (run_mkG (us := []) (vs := []) (E := WE E) M F cn.room cn.gd hb hd (passAt cn.tk σ) I .nil fun q dx hq hdx ne => makeM_ok rp (rdf ρ H) h hq hdx ne)
end
end CC
set_option Elab.async false
set_option linter.all false
set_option maxRecDepth 100000
/-! CCComp: list comprehensions -/
namespace CC
open PySem PySem.Spec PyProof.Rows L2

/-- the target of a comprehension: a name, two, three names -/
inductive CTg where
  | nm (i : Nat) | pr (i j : Nat) | tr (i j k : Nat)
def CTg.slots : CTg → List Nat
  | .nm i => [i]
  | .pr i j => [i, j]
  | .tr i j k => [i, j, k]
def CTg.tg (K : PySem.W.Frag) : CTg → TG
  | .nm i => gName i
  | .pr i j => gTup K 2 (gCons (gName i) (gCons (gName j) gNil))
  | .tr i j k => gTup K 3 (gCons (gName i) (gCons (gName j) (gCons (gName k) gNil)))
def CTg.bind (w : W) (l : Lo) : CTg → Option Lo
  | .nm i => some (l.set i (some w))
  | .pr i j => (match w with | .tup [a, b] => some ((l.set i (some a)).set j (some b)) | _ => none)
  | .tr i j k => (match w with | .tup [a, b, c] => some (((l.set i (some a)).set j (some b)).set k (some c)) | _ => none)
def wipeL (l : Lo) : List Nat → Lo
  | [] => l
  | v :: vs => (wipeL l vs).set v none
def tTrue : Lo → S → R Bool := fun _ s => .ok true s
def lcI (p : Hh) (ct : CTg) (t : Lo → S → R Bool) (e : Lo → S → R W) (d : ItD) (n : Nat) : Nat → Nat → Lo → S → R W
  | 0, _, _, _ => .bad
  | k + 1, i, l, s => match d.next p s i with
    | none => .bad
    | some none => .ok (.ref n) s
    | some (some w) => match ct.bind w l with
      | none => .bad
      | some l1 => match t l1 s with
        | .ok false s1 => lcI p ct t e d n k (i + 1) l s1
        | .ok true s1 => (match e l1 s1 with
          | .ok y s2 => (match rd p s2 n with
            | some (.lst acc) => if acc.length ≤ 1000000 then lcI p ct t e d n k (i + 1) l (wr p s2 n (.lst (acc ++ [y]))) else .bad
            | _ => .bad)
          | _ => .bad)
        | _ => .bad
def eLc (p : Hh) (ct : CTg) (mi : Lo → S → R ItD) (t : Lo → S → R Bool) (e : Lo → S → R W) : Lo → S → R W := fun l s => (mi l s).bind fun d s1 =>
  lcI p ct t e d (nxt p s1) (d.cnt p s1 + 1) 0 (wipeL l ct.slots) (al s1 (.lst []))

section
variable {G : GE} {p : Hh} {E : WX} {X : Cx} {k : Nat} {pos pos' : Pos} {ρ : List Addr} {H : Hp} {s : S} {l : Lo} {σ : L2.St}
abbrev E0 : WX := fun _ _ _ _ => False
theorem wipe_rl (r : RL G ρ H l σ) : ∀ vs : List Nat, (∀ i ∈ vs, G.hold ≠ some i) → RL G ρ H (wipeL l vs) (wipe σ vs)
  | [], _ => r
  | v :: vs, h => (wipe_rl r vs fun i m => h i (List.mem_cons_of_mem _ m)).delσ v (h v (List.mem_cons_self ..))
theorem wipe_len (σ : L2.St) : ∀ vs, (wipe σ vs).length = σ.length := fun vs => wipe_length σ vs
/-- what the target does -/
theorem ct_bind {K : PySem.W.Frag} {ct : CTg} {w : W} {v : V} {l1 : Lo} {Q : L2.St → Hp → Prop} (nd : ct.slots.Nodup) (hh : ∀ i ∈ ct.slots, G.hold ≠ some i) (rl : RL G ρ H l σ) (rv : RV G ρ H w v) (h : ct.bind w (wipeL l ct.slots) = some l1) (hq : ∀ σ2, RL G ρ H l1 σ2 → wipe σ2 ct.slots = wipe σ ct.slots → Q σ2 H) : ct.tg K v (wipe σ ct.slots) H Q := by
  have r0 := wipe_rl rl ct.slots hh
  cases ct with
  | nm i =>
    cases h
    refine hq _ (r0.set i rv (hh _ (by simp [CTg.slots]))) ?_
    simp [CTg.slots, wipe, List.set_set]
  | pr i j =>
    cases rv with
    | @tup a ws vs na ha r =>
      match ws, vs, r, h with
      | [], _, _, h => cases h
      | [_], _, _, h => cases h
      | _ :: _ :: _ :: _, _, _, h => cases h
      | [w1, w2], _, .cons r1 (.cons r2 .nil), h =>
        cases h
        have hij : i ≠ j := by simpa [CTg.slots] using nd
        refine ⟨a, _, rfl, SqT.of ha, rfl, _, _, rfl, _, _, rfl, rfl, hq _ ((r0.set i r1 (hh _ (by simp [CTg.slots]))).set j r2 (hh _ (by simp [CTg.slots]))) ?_⟩
        apply List.ext_getElem?
        intro m
        simp only [CTg.slots, wipe, List.getElem?_set, List.length_set]
        by_cases h1 : i = m <;> by_cases h2 : j = m <;> simp_all
    | _ => cases h
  | tr i j k =>
    cases rv with
    | @tup a ws vs na ha r =>
      match ws, vs, r, h with
      | [], _, _, h => cases h
      | [_], _, _, h => cases h
      | [_, _], _, _, h => cases h
      | _ :: _ :: _ :: _ :: _, _, _, h => cases h
      | [w1, w2, w3], _, .cons r1 (.cons r2 (.cons r3 .nil)), h =>
        cases h
        have hd : (i ≠ j ∧ i ≠ k) ∧ j ≠ k := by simpa [CTg.slots] using nd
        obtain ⟨⟨hij, hik⟩, hjk⟩ := hd
        refine ⟨a, _, rfl, SqT.of ha, rfl, _, _, rfl, _, _, rfl, _, _, rfl, rfl, hq _ (((r0.set i r1 (hh _ (by simp [CTg.slots]))).set j r2 (hh _ (by simp [CTg.slots]))).set k r3 (hh _ (by simp [CTg.slots]))) ?_⟩
        apply List.ext_getElem?
        intro m
        simp only [CTg.slots, wipe, List.getElem?_set, List.length_set]
        by_cases h1 : i = m <;> by_cases h2 : j = m <;> by_cases h3 : k = m <;> simp_all
    | _ => cases h
theorem cn_blk {s : Shared} {H : Hp} {scope : Scope} {ce : Env} {fp : List Addr} (cn : Cn X E k) : Cn (X.blk s H scope ce fp) E0 k := ⟨cn.calm, cn.room, takes0, PassesOwn.never, cn.nd, cn.gd⟩
/-- the tests of a comprehension -/
def STs (G : GE) (p : Hh) (E : WX) (X : Cx) (ifs : List Expr) (m : Lo → S → R Bool) : Prop := PTs X ifs (tT G p E m)
theorem sts_nil : STs G p E X [] tTrue := ⟨fun pins s σ H Q I ⟨ρ, l, s0, rl, rp, h⟩ => pts_nil.run pins s σ H Q I (h ρ H true Ex.rfl' rp rfl)⟩
theorem sts_one {c : Expr} {m : Lo → S → R Bool} (h : ST G p E X c m) : STs G p E X [c] m := ⟨fun pins s σ H Q I w => (pts_one h).run pins s σ H Q I w⟩
variable {elt tg iter : Expr} {ifs : List Expr} {scope : Scope} {own : List (Str × Nat)} {ct : CTg} {mi : Lo → S → R ItD} {mt : Lo → S → R Bool} {me : Lo → S → R W}
theorem lc_way {J : It} {D : Addr} {d : ItD} {Q : VK} {E1 : XK} {tgg : TG} (nd : ct.slots.Nodup) (hh : ∀ i ∈ ct.slots, G.hold ≠ some i) {ρ0 : List Addr} {H0 : Hp} (ri : RI G p ρ0 H0 d J) (rl0 : RL G ρ0 H0 l σ) {s0 : S} (rp0 : Rep G ρ0 p s0 H0) (hD : H0 D = none)
    (h : PoV G p ρ0 H0 (lcI p ct mt me d (nxt p s0) (d.cnt p s0 + 1) 0 (wipeL l ct.slots) (al s0 (.lst []))) Q E1) :
    ∃ Wn : Nat → Nat → Hp → Prop, (∃ m, Wn 0 m (upd H0 D (.lst []))) ∧ ∀ i m H, Wn i m H →
      (J.stop i H ∧ Q (.ref D) H) ∨ (J.go i H ∧ ∃ Nx : Hp → Prop, (∀ H', Nx H' → ∃ m', m' < m ∧ Wn (i + 1) m' H') ∧ ∀ x H', J.yld i H x H' → ct.tg X.K x (wipe σ ct.slots) H' fun σ2 H2 => wipe σ2 ct.slots = wipe σ ct.slots ∧ tT G p E0 mt σ2 H2 fun b H3 =>
        if b = true then tI G p E0 me σ2 H3 fun y H4 => ∃ acc, H4 D = some (.lst acc) ∧ acc.length < sizeLine ∧ Nx (upd H4 D (.lst (acc ++ [y]))) else Nx H3) := by
  generalize hn : nxt p s0 = n at h
  generalize d.cnt p s0 + 1 = fuel at h
  obtain ⟨x1, rp1, rv1⟩ := rp0.al_ (o := .lst []) hD (.lst (vs := []) .nil)
  rw [hn] at rv1
  have eD : (ρ0 ++ [D])[n]? = some D := by cases rv1; assumption
  refine ⟨fun i m H => ∃ ρ' s', Ex (ρ0 ++ [D]) (upd H0 D (.lst [])) ρ' H ∧ Rep G ρ' p s' H ∧ PoV G p ρ' H (lcI p ct mt me d n m i (wipeL l ct.slots) s') Q E1, ⟨fuel, _, _, Ex.rfl', rp1, PoA.base h x1⟩, ?_⟩
  rintro i m H1 ⟨ρ1, s1, x2, rp2, h1⟩
  have eD1 := x2.get eD
  cases m with
  | zero => exact h1.elim
  | succ m =>
    unfold lcI at h1
    cases q : d.next p s1 i with
    | none => rw [q] at h1; exact h1.elim
    | some o =>
      rw [q] at h1
      cases o with
      | none => exact .inl ⟨ri.no i s1 ρ1 H1 (x1.trans x2) rp2 q, h1 ρ1 H1 _ Ex.rfl' rp2 (.ref eD1)⟩
      | some w =>
        obtain ⟨go, yl⟩ := ri.yes i w s1 ρ1 H1 (x1.trans x2) rp2 q
        refine .inr ⟨go, fun H' => ∃ ρ' s', Ex (ρ0 ++ [D]) (upd H0 D (.lst [])) ρ' H' ∧ Rep G ρ' p s' H' ∧ PoV G p ρ' H' (lcI p ct mt me d n m (i + 1) (wipeL l ct.slots) s') Q E1, fun H' z => ⟨m, Nat.lt_succ_self m, z⟩, fun v H2 y => ?_⟩
        obtain ⟨x3, rp3, rv⟩ := yl v H2 y
        dsimp only at h1
        cases q2 : ct.bind w (wipeL l ct.slots) with
        | none => rw [q2] at h1; exact h1.elim
        | some l1 =>
          rw [q2] at h1
          dsimp only at h1
          refine ct_bind nd hh (((rl0.mono x1).mono x2).mono x3) rv q2 fun σ2 rl2 hw => ⟨hw, ρ1, l1, s1, rl2, rp3, ?_⟩
          have h1 := PoA.base h1 x3
          cases q3 : mt l1 s1 with
          | bad => rw [q3] at h1; exact h1.elim
          | exc _ _ _ => rw [q3] at h1; exact h1.elim
          | ok b s2 =>
            rw [q3] at h1
            intro ρ4 H4 b' x4 rp4 eb
            cases eb
            cases b with
            | false => exact ⟨ρ4, s2, ((x2.trans x3).trans x4), rp4, PoA.base h1 x4⟩
            | true =>
              dsimp only at h1
              refine ⟨ρ4, l1, s2, rl2.mono x4, rp4, ?_⟩
              have h1 := PoA.base h1 x4
              cases q4 : me l1 s2 with
              | bad => rw [q4] at h1; exact h1.elim
              | exc _ _ _ => rw [q4] at h1; exact h1.elim
              | ok yw s3 =>
                rw [q4] at h1
                dsimp only at h1
                intro ρ5 H5 yv x5 rp5 rv5
                have h1 := PoA.base h1 x5
                have eD5 := x5.get (x4.get (x3.get eD1))
                cases q5 : rd p s3 n with
                | none => rw [q5] at h1; exact h1.elim
                | some ob =>
                  rw [q5] at h1
                  obtain ⟨u, hu, ro⟩ := rp5.at q5 eD5
                  cases ro with
                  | @lst ws vs r =>
                    dsimp only at h1
                    by_cases hl : ws.length ≤ 1000000
                    · rw [if_pos hl] at h1
                      refine ⟨vs, hu, by rw [← r.len, sizeLine_eq]; omega, ?_⟩
                      have xx : Ex ρ5 H5 ρ5 (upd H5 D (.lst (vs ++ [yv]))) := ⟨⟨[], by simp⟩, fun _ h n => absurd h n, fun b o nb hb => by
                        have ne : b ≠ D := fun z => nb (by rw [z]; exact List.mem_of_getElem? eD5)
                        rw [upd_ne ne]; exact hb⟩
                      obtain ⟨_, rp6⟩ := rp5.wr_ eD5 (o := .lst (ws ++ [yw])) (u := .lst (vs ++ [yv])) (.lst ((r.mono xx).app (.cons (rv5.mono xx) .nil)))
                      exact ⟨ρ5, _, (((x2.trans x3).trans x4).trans x5).trans xx, rp6, PoA.base h1 xx⟩
                    · rw [if_neg hl] at h1; exact h1.elim
                  | _ => exact h1.elim
theorem se_lc (cn : Cn X E k) (hi : SI G p E X tg iter mi) (ok : BlkOk X.N X.env.scope scope own) (hown : own.map (·.2) = ct.slots) (hnd : ct.slots.Nodup)
    (hg : ∀ (s : Shared) (H : Hp) (C : Addr) (cl : List (Str × Addr)) (fp : List Addr), PG (X.blk s H scope (compEnvC scope cl C X.env) fp) tg (ct.tg X.K))
    (ht : ∀ (s : Shared) (H : Hp) (C : Addr) (cl : List (Str × Addr)) (fp : List Addr), Cn (X.blk s H scope (compEnvC scope cl C X.env) fp) E0 k → STs G p E0 (X.blk s H scope (compEnvC scope cl C X.env) fp) ifs mt)
    (he : ∀ (s : Shared) (H : Hp) (C : Addr) (cl : List (Str × Addr)) (fp : List Addr), Cn (X.blk s H scope (compEnvC scope cl C X.env) fp) E0 k → SE G p E0 (X.blk s H scope (compEnvC scope cl C X.env) fp) elt me)
    (hs : ∀ x, foldedSetIterable iter X.env x = pure x := by intro _; rfl) (hh : ∀ i ∈ ct.slots, G.hold ≠ some i := by intro _ _ z; cases z) : SE G p E X (.ListComp elt [⟨tg, iter, ifs, 0⟩] scope pos) (eLc p ct mi mt me) := by
  have h0 := pe_lc (pos := pos) (elt := elt) (ifs := ifs) (own := own) cn.calm cn.nd hi ok hg (fun s H C cl fp => ht s H C cl fp (cn_blk cn)) (fun s H C cl fp => he s H C cl fp (cn_blk cn)) hs
  rw [hown] at h0
  exact PE_imp h0 fun σ H Q ⟨ρ, l, s, rl, rp, h⟩ => ⟨ρ, l, s, rl, rp, PoA.bind h fun d s1 ρ1 H1 J x1 rp1 ri h1 => fun D hD => lc_way (X := X) (tgg := ct.tg X.K) hnd hh ri (rl.mono x1) rp1 hD h1⟩
/-- name = [..] -/
theorem ss_setLc (i : Nat) {y : Str} {py spos : Pos} (cn : Cn X E k) (hi : SI G p E X tg iter mi) (ok : BlkOk X.N X.env.scope scope own) (hown : own.map (·.2) = ct.slots) (hnd : ct.slots.Nodup)
    (hg : ∀ (s : Shared) (H : Hp) (C : Addr) (cl : List (Str × Addr)) (fp : List Addr), PG (X.blk s H scope (compEnvC scope cl C X.env) fp) tg (ct.tg X.K))
    (ht : ∀ (s : Shared) (H : Hp) (C : Addr) (cl : List (Str × Addr)) (fp : List Addr), Cn (X.blk s H scope (compEnvC scope cl C X.env) fp) E0 k → STs G p E0 (X.blk s H scope (compEnvC scope cl C X.env) fp) ifs mt)
    (he : ∀ (s : Shared) (H : Hp) (C : Addr) (cl : List (Str × Addr)) (fp : List Addr), Cn (X.blk s H scope (compEnvC scope cl C X.env) fp) E0 k → SE G p E0 (X.blk s H scope (compEnvC scope cl C X.env) fp) elt me)
    (hsw : swapsWith (.ListComp elt [⟨tg, iter, ifs, 0⟩] scope pos) (some (.Name y py)) spos.line X.env = pure true) (hy : X.N[i]? = some y := by rfl) (hyl : X.env.scope.names.lookup y = some .local := by rfl)
    (hs : ∀ x, foldedSetIterable iter X.env x = pure x := by intro _; rfl) (hh : ∀ i ∈ ct.slots, G.hold ≠ some i := by intro _ _ z; cases z) (hh2 : G.hold ≠ some i := by intro z; cases z) : SS G p E X (.Assign [.Name y py] (.ListComp elt [⟨tg, iter, ifs, 0⟩] scope pos) spos) (sAsg (gNm i) (eLc p ct mi mt me)) := by
  have h0 := ps_setLc (spos := spos) (pos := pos) (elt := elt) (ifs := ifs) (own := own) cn.calm cn.nd hy hyl hsw hi ok hg (fun s H C cl fp => ht s H C cl fp (cn_blk cn)) (fun s H C cl fp => he s H C cl fp (cn_blk cn)) hs
  rw [hown] at h0
  refine PS_imp h0 fun D σ H ⟨ρ, l, s, rl, rp, h⟩ => ⟨ρ, l, s, rl, rp, ?_⟩
  have h1 := PoS.val (Q := fun v H1 => gName i v σ H1 D.nx) rl h fun w s1 ρ1 H1 v x1 rp1 rv1 h1 => h1 ρ1 H1 _ Ex.rfl' rp1 ((rl.mono x1).set i rv1 hh2)
  exact PoA.bind h1 fun d s1 ρ1 H1 J x1 rp1 ri h1 => fun D' hD => lc_way (X := X) (tgg := ct.tg X.K) hnd hh ri (rl.mono x1) rp1 hD h1
end
end CC
set_option Elab.async false
set_option linter.all false
set_option maxRecDepth 100000
/-! CCPrim: operators on values -/
namespace CC
open PySem PySem.Spec PyProof.Rows L2

def i64 (i : Int) : Bool := decide (-(2 ^ 64) < i) && decide (i < 2 ^ 64)
def gAdd (p : Hh) (x y : W) (s : S) : O2 := match x, y with
  | .int i, .int j => some (.int (i + j), s)
  | .str a, .str b => if a.length + b.length ≤ 1000000 then some (.str (a ++ b), s) else none
  | .tup a, .tup b => if a.length + b.length ≤ 1000000 then some (.tup (a ++ b), s) else none
  | .ref n, .ref m => (match rd p s n, rd p s m with
    | some (.lst a), some (.lst b) => if a.length + b.length ≤ 1000000 then some (.ref (nxt p s), al s (.lst (a ++ b))) else none
    | _, _ => none)
  | _, _ => none
def gSub (_ : Hh) (x y : W) (s : S) : O2 := match x, y with
  | .int i, .int j => some (.int (i - j), s)
  | _, _ => none
def repL (k : Int) (a : List W) : List W := (List.replicate k.toNat a).flatten
def gMul (p : Hh) (x y : W) (s : S) : O2 := match x, y with
  | .int i, .int j => if i64 i || i64 j then some (.int (i * j), s) else none
  | .ref n, .int k => (match rd p s n with
    | some (.lst a) => if -(2 ^ 63) ≤ k ∧ k < 2 ^ 63 ∧ a.length * k.toNat ≤ 1000000 then some (.ref (nxt p s), al s (.lst (repL k a))) else none
    | _ => none)
  | .tup a, .int k => if a ≠ [] ∧ 2 ≤ k ∧ k ≤ 1000 ∧ a.length ≤ 1000 then some (.tup (repL k a), s) else none
  | _, _ => none
def gFdiv (_ : Hh) (x y : W) (s : S) : O2 := match x, y with
  | .int i, .int j => if 0 < j ∧ j < 1073741824 then some (.int (i / j), s) else none
  | _, _ => none
def gMod (_ : Hh) (x y : W) (s : S) : O2 := match x, y with
  | .int i, .int j => if 0 < j then some (.int (i % j), s) else none
  | _, _ => none
def gPow (_ : Hh) (x y : W) (s : S) : O2 := match x, y with
  | .int i, .int j => if 0 ≤ j ∧ j ≤ 1000000 ∧ i.natAbs < 2 ^ 64 then some (.int (i ^ j.toNat), s) else none
  | _, _ => none
def gNeg (_ : Hh) (x : W) (s : S) : O2 := match x with
  | .int i => some (.int (-i), s)
  | _ => none
/-! ### order -/
def isInts : List W → Option (List Int)
  | [] => some []
  | .int i :: r => (isInts r).map (i :: ·)
  | _ => none
def gLt (_ : Hh) (x y : W) (s : S) : O2 := match x, y with
  | .int i, .int j => some (.bl (decide (i < j)), s)
  | .tup a, .tup b => (match isInts a, isInts b with | some ns, some ms => some (.bl (HT.lexLt ns ms), s) | _, _ => none)
  | _, _ => none
def gLe (_ : Hh) (x y : W) (s : S) : O2 := match x, y with
  | .int i, .int j => some (.bl (decide (i ≤ j)), s)
  | _, _ => none
def gGt (_ : Hh) (x y : W) (s : S) : O2 := match x, y with
  | .int i, .int j => some (.bl (decide (j < i)), s)
  | _, _ => none
def gGe (_ : Hh) (x y : W) (s : S) : O2 := match x, y with
  | .int i, .int j => some (.bl (decide (j ≤ i)), s)
  | _, _ => none
/-! ### is -/
def isNon : W → Bool
  | .non => true
  | _ => false
def gIs (_ : Hh) (x y : W) (s : S) : O2 := match y with
  | .non => some (.bl (isNon x), s)
  | .bl b => (match x with | .bl a => some (.bl (decide (a = b)), s) | _ => none)
  | _ => none
def gIsN (_ : Hh) (x y : W) (s : S) : O2 := match y with
  | .non => some (.bl (!isNon x), s)
  | .bl b => (match x with | .bl a => some (.bl (!decide (a = b)), s) | _ => none)
  | _ => none
/-! ### rules -/
section
variable {G : GE} {X : Cx}
theorem opI_of {F : Value → Value → Sem Value} {r : R2} {f : Hh → W → W → S → O2} (hr : OpR X F r) (h : ∀ (p : Hh) (ρ : List Addr) (s : S) (H : Hp) (x y : W) (v u : V) (Q : VK), Rep G ρ p s H → RV G ρ H x v → RV G ρ H y u → PoO G p ρ H (f p x y s) Q → r v u H Q) : OpI G X F f :=
  fun p pins s σ H v u v' u' Q I rv ru ⟨ρ, s0, x, y, rp, r1, r2, q⟩ => hr pins s σ H v u v' u' Q I rv ru (h p ρ s0 H x y v u Q rp r1 r2 q)
theorem unI_of {F : Value → Sem Value} {r : V → Hp → VK → Prop} {f : Hh → W → S → O2} (hr : UnR X F r) (h : ∀ (p : Hh) (ρ : List Addr) (s : S) (H : Hp) (x : W) (v : V) (Q : VK), Rep G ρ p s H → RV G ρ H x v → PoO G p ρ H (f p x s) Q → r v H Q) : UnI G X F f :=
  fun p pins s σ H v v' Q I rv ⟨ρ, s0, x, rp, r1, q⟩ => hr pins s σ H v v' Q I rv (h p ρ s0 H x v Q rp r1 q)
theorem callI_of {F : Value} {r : List V → Hp → VK → Prop} {f : Hh → List W → S → O2} (hr : CallR X F r) (h : ∀ (p : Hh) (ρ : List Addr) (s : S) (H : Hp) (xs : List W) (vs : List V) (Q : VK), Rep G ρ p s H → RVs G ρ H xs vs → PoO G p ρ H (f p xs s) Q → r vs H Q) : CallI G X F f :=
  fun p pins s σ H vs us Q I rv ⟨ρ, s0, xs, rp, r1, q⟩ => hr pins s σ H vs us Q I rv (h p ρ s0 H xs vs Q rp r1 q)
/-- a new list's cell -/
theorem po_lst {p : Hh} {ρ : List Addr} {s : S} {H : Hp} {ws : List W} {vs : List V} {Q : VK} (rp : Rep G ρ p s H) (r : RVs G ρ H ws vs) (h : PoO G p ρ H (some (.ref (nxt p s), al s (.lst ws))) Q) {q : Addr} (hq : H q = none) : Q (.ref q) (upd H q (.lst vs)) := by
  have x : Ex ρ H (ρ ++ [q]) (upd H q (.lst vs)) := Ex.al rp hq
  obtain ⟨_, rp2, rv⟩ := rp.al_ (o := .lst ws) hq (.lst (r.mono x))
  exact h _ _ _ x rp2 rv
/-- a new tuple -/
theorem po_tup {p : Hh} {ρ : List Addr} {s : S} {H : Hp} {ws : List W} {vs : List V} {Q : VK} (rp : Rep G ρ p s H) (r : RVs G ρ H ws vs) (h : PoO G p ρ H (some (.tup ws, s)) Q) {q : Addr} (hq : H q = none) : Q (.ref q) (upd H q (.tup vs)) :=
  have x := Ex.fresh (u := .tup vs) rp hq
  h ρ _ _ x (rp.fresh hq) (.tup (rp.ref_none hq) upd_same (r.mono x))
theorem lst_at {p : Hh} {ρ : List Addr} {s : S} {H : Hp} {n : Nat} {a : Addr} {ws : List W} (rp : Rep G ρ p s H) (h : rd p s n = some (.lst ws)) (e : ρ[n]? = some a) : ∃ vs, H a = some (.lst vs) ∧ RVs G ρ H ws vs := by
  obtain ⟨u, hu, ro⟩ := rp.at h e
  cases ro with
  | lst r => exact ⟨_, hu, r⟩
theorem i_add : OpI G X (binaryOp .Add) gAdd := by
  refine opI_of (OpR.or op_add (OpR.or op_add_str (OpR.or op_catA op_cat))) fun p ρ s H x y v u Q rp r1 r2 h => ?_
  cases r1 with
  | int i => cases r2 with
    | int j => exact .inl ⟨i, j, rfl, rfl, po_v h rp (.int _)⟩
    | _ => exact (show False from h).elim
  | str a => cases r2 with
    | str b =>
      simp only [gAdd] at h
      split at h
      · rename_i hl
        exact .inr (.inl ⟨a, b, rfl, rfl, million hl, po_v h rp (.str _)⟩)
      · exact h.elim
    | _ => exact (show False from h).elim
  | @tup a ws vs na ha r => cases r2 with
    | @tup b ws' vs' nb hb r' =>
      simp only [gAdd] at h
      split at h
      · rename_i hl
        refine .inr (.inr (.inl ⟨a, b, vs, vs', rfl, rfl, SqT.of ha, SqT.of hb, by rw [← r.len, ← r'.len]; exact million hl, fun e => ?_, fun _ e => ?_, fun _ _ q hq => po_tup rp (r.app r') h hq⟩))
        · subst e
          cases r
          exact h ρ H _ Ex.rfl' rp (.tup nb hb r')
        · subst e
          cases r'
          rw [List.append_nil] at h
          exact h ρ H _ Ex.rfl' rp (.tup na ha r)
      · exact h.elim
    | _ => exact (show False from h).elim
  | @ref n a e => cases r2 with
    | @ref m b e' =>
      simp only [gAdd] at h
      cases q1 : rd p s n with
      | none => rw [q1] at h; exact h.elim
      | some o1 =>
        cases q2 : rd p s m with
        | none =>
          rw [q1, q2] at h
          cases o1 <;> exact h.elim
        | some o2 =>
          rw [q1, q2] at h
          cases o1 with
          | lst ws => cases o2 with
            | lst ws' =>
              dsimp only at h
              split at h
              · rename_i hl
                obtain ⟨vs, hv, r⟩ := lst_at rp q1 e
                obtain ⟨vs', hv', r'⟩ := lst_at rp q2 e'
                exact .inr (.inr (.inr ⟨a, b, vs, vs', rfl, rfl, hv, hv', by rw [← r.len, ← r'.len]; exact million hl, fun q hq => po_lst rp (r.app r') h hq⟩))
              · exact h.elim
            | _ => exact h.elim
          | _ => exact h.elim
    | _ => exact (show False from h).elim
  | _ => exact (show False from h).elim
theorem i_sub : OpI G X (binaryOp .Sub) gSub := by
  refine opI_of op_sub fun p ρ s H x y v u Q rp r1 r2 h => ?_
  cases r1 with
  | int i => cases r2 with
    | int j => exact ⟨i, j, rfl, rfl, po_v h rp (.int _)⟩
    | _ => exact (show False from h).elim
  | _ => exact (show False from h).elim
theorem i64_ok {i j : Int} (h : (i64 i || i64 j) = true) : CMul i j := by
  rcases Bool.or_eq_true_iff.mp h with h | h
  · obtain ⟨a, b⟩ := Bool.and_eq_true_iff.mp h
    exact .inl ⟨of_decide_eq_true a, of_decide_eq_true b⟩
  · obtain ⟨a, b⟩ := Bool.and_eq_true_iff.mp h
    exact .inr ⟨of_decide_eq_true a, of_decide_eq_true b⟩
theorem RVs.rep {ρ : List Addr} {H : Hp} {ws : List W} {vs : List V} (r : RVs G ρ H ws vs) : ∀ n : Nat, RVs G ρ H (List.replicate n ws).flatten (List.replicate n vs).flatten
  | 0 => .nil
  | n + 1 => by
    simp only [List.replicate_succ, List.flatten_cons]
    exact r.app (RVs.rep r n)
theorem i_mul : OpI G X (binaryOp .Mult) gMul := by
  refine opI_of (OpR.or op_mul (OpR.or op_rep op_repT)) fun p ρ s H x y v u Q rp r1 r2 h => ?_
  cases r1 with
  | int i => cases r2 with
    | int j =>
      simp only [gMul] at h
      split at h
      · rename_i hc
        exact .inl ⟨i, j, rfl, rfl, i64_ok hc, po_v h rp (.int _)⟩
      · exact h.elim
    | _ => exact (show False from h).elim
  | @ref n a e => cases r2 with
    | int k =>
      simp only [gMul] at h
      cases q1 : rd p s n with
      | none => rw [q1] at h; exact h.elim
      | some o1 =>
        rw [q1] at h
        cases o1 with
        | lst ws =>
          dsimp only at h
          split at h
          · rename_i hl
            obtain ⟨vs, hv, r⟩ := lst_at rp q1 e
            obtain ⟨h1, h2, h3⟩ := hl
            exact .inr (.inl ⟨a, k, vs, rfl, rfl, hv, h1, h2, by rw [← r.len]; exact million h3, fun q hq => po_lst rp (r.rep _) h hq⟩)
          · exact h.elim
        | _ => exact h.elim
    | _ => exact (show False from h).elim
  | @tup a ws vs na ha r => cases r2 with
    | int k =>
      simp only [gMul] at h
      split at h
      · rename_i hl
        obtain ⟨h1, h2, h3, h4⟩ := hl
        refine .inr (.inr ⟨a, k, vs, rfl, rfl, SqT.of ha, fun e => ?_, h2, h3, by rw [← r.len]; exact h4, fun q hq => po_tup rp (r.rep _) h hq⟩)
        subst e
        cases r
        exact h1 rfl
      · exact h.elim
    | _ => exact (show False from h).elim
  | _ => exact (show False from h).elim
theorem i_fdiv : OpI G X (binaryOp .FloorDiv) gFdiv := by
  refine opI_of op_fdiv fun p ρ s H x y v u Q rp r1 r2 h => ?_
  cases r1 with
  | int i => cases r2 with
    | int j =>
      simp only [gFdiv] at h
      split at h
      · rename_i hc
        exact ⟨i, j, rfl, rfl, hc, po_v h rp (.int _)⟩
      · exact h.elim
    | _ => exact (show False from h).elim
  | _ => exact (show False from h).elim
theorem i_mod : OpI G X (binaryOp .Mod) gMod := by
  refine opI_of op_mod fun p ρ s H x y v u Q rp r1 r2 h => ?_
  cases r1 with
  | int i => cases r2 with
    | int j =>
      simp only [gMod] at h
      split at h
      · rename_i hc
        exact ⟨i, j, rfl, rfl, hc, po_v h rp (.int _)⟩
      · exact h.elim
    | _ => exact (show False from h).elim
  | _ => exact (show False from h).elim
theorem i_pow : OpI G X (binaryOp .Pow) gPow := by
  refine opI_of op_pow fun p ρ s H x y v u Q rp r1 r2 h => ?_
  cases r1 with
  | int i => cases r2 with
    | int j =>
      simp only [gPow] at h
      split at h
      · rename_i hc
        exact ⟨i, j, rfl, rfl, hc, po_v h rp (.int _)⟩
      · exact h.elim
    | _ => exact (show False from h).elim
  | _ => exact (show False from h).elim
theorem i_neg : UnI G X (unaryOp .USub) gNeg := by
  refine unI_of un_neg fun p ρ s H x v Q rp r1 h => ?_
  cases r1 with
  | int i => exact ⟨i, rfl, po_v h rp (.int _)⟩
  | _ => exact (show False from h).elim
theorem isInts_ok {ρ : List Addr} {H : Hp} : ∀ {ws : List W} {vs : List V} {ns : List Int}, isInts ws = some ns → RVs G ρ H ws vs → vs = ns.map V.int
  | [], _, ns, h, r => by simp only [isInts] at h; cases h; cases r; rfl
  | w :: ws, _, ns, h, r => by
    cases r with
    | cons r1 r2 =>
      cases r1 with
      | int i =>
        simp only [isInts] at h
        cases q : isInts ws with
        | none => rw [q] at h; cases h
        | some ms =>
          rw [q] at h
          cases h
          rw [isInts_ok q r2]
          rfl
      | _ => cases h
theorem i_lt (hu : X.A.units < cLine) : OpI G X (compareOp .Lt) gLt := by
  refine opI_of (OpR.or op_lt (op_ltT hu)) fun p ρ s H x y v u Q rp r1 r2 h => ?_
  cases r1 with
  | int i => cases r2 with
    | int j => exact .inl ⟨i, j, rfl, rfl, po_v h rp (.bl _)⟩
    | _ => exact (show False from h).elim
  | @tup a ws vs na ha r => cases r2 with
    | @tup b ws' vs' nb hb r' =>
      simp only [gLt] at h
      cases q1 : isInts ws with
      | none => rw [q1] at h; exact h.elim
      | some ns =>
        cases q2 : isInts ws' with
        | none => rw [q1, q2] at h; exact h.elim
        | some ms =>
          rw [q1, q2] at h
          have e1 := isInts_ok q1 r
          have e2 := isInts_ok q2 r'
          subst e1 e2
          exact .inr ⟨a, b, ns, ms, rfl, rfl, SqT.of ha, SqT.of hb, po_v h rp (.bl _)⟩
    | _ => exact (show False from h).elim
  | _ => exact (show False from h).elim
theorem i_le : OpI G X (compareOp .LtE) gLe := by
  refine opI_of op_le fun p ρ s H x y v u Q rp r1 r2 h => ?_
  cases r1 with
  | int i => cases r2 with
    | int j => exact ⟨i, j, rfl, rfl, po_v h rp (.bl _)⟩
    | _ => exact (show False from h).elim
  | _ => exact (show False from h).elim
theorem i_gt : OpI G X (compareOp .Gt) gGt := by
  refine opI_of op_gt fun p ρ s H x y v u Q rp r1 r2 h => ?_
  cases r1 with
  | int i => cases r2 with
    | int j => exact ⟨i, j, rfl, rfl, po_v h rp (.bl _)⟩
    | _ => exact (show False from h).elim
  | _ => exact (show False from h).elim
theorem i_ge : OpI G X (compareOp .GtE) gGe := by
  refine opI_of op_ge fun p ρ s H x y v u Q rp r1 r2 h => ?_
  cases r1 with
  | int i => cases r2 with
    | int j => exact ⟨i, j, rfl, rfl, po_v h rp (.bl _)⟩
    | _ => exact (show False from h).elim
  | _ => exact (show False from h).elim
theorem isNon_ok {ρ : List Addr} {H : Hp} {x : W} {v : V} (r : RV G ρ H x v) : isNon x = decide (v = .non) := by
  cases r <;> first | rfl | simp [isNon]
theorem i_is : OpI G X (compareOp .Is) gIs := by
  refine opI_of (OpR.or op_isN op_isBl) fun p ρ s H x y v u Q rp r1 r2 h => ?_
  cases r2 with
  | non => exact .inl ⟨rfl, by rw [← isNon_ok r1]; exact po_v h rp (.bl _)⟩
  | bl b => cases r1 with
    | bl a => exact .inr ⟨a, b, rfl, rfl, po_v h rp (.bl _)⟩
    | _ => exact (show False from h).elim
  | _ => exact (show False from h).elim
theorem i_isN : OpI G X (compareOp .IsNot) gIsN := by
  refine opI_of (OpR.or op_notN op_notBl) fun p ρ s H x y v u Q rp r1 r2 h => ?_
  cases r2 with
  | non => exact .inl ⟨rfl, by rw [← isNon_ok r1]; exact po_v h rp (.bl _)⟩
  | bl b => cases r1 with
    | bl a => exact .inr ⟨a, b, rfl, rfl, po_v h rp (.bl _)⟩
    | _ => exact (show False from h).elim
  | _ => exact (show False from h).elim
end
end CC
set_option Elab.async false
set_option linter.all false
set_option maxRecDepth 100000
/-! CCPrim2: values as data: equality, in, repr -/
namespace CC
open PySem PySem.Spec PyProof.Rows L2

/-! ### values as data -/
def mapO {α β : Type} (f : α → Option β) : List α → Option (List β)
  | [] => some []
  | a :: r => match f a with
    | none => none
    | some b => (match mapO f r with
      | none => none
      | some q => some (b :: q))
def datW (p : Hh) (s : S) : Nat → W → Option PyData
  | _, .non => some .none
  | _, .bl b => some (.bool b)
  | _, .int i => some (.int i)
  | _, .str z => some (.str z)
  | f + 1, .tup ws => (match mapO (datW p s f) ws with | some ds => some (.tuple ds) | none => none)
  | f + 1, .ref n => match rd p s n with
    | some (.lst ws) => (match mapO (datW p s f) ws with | some ds => some (.list ds) | none => none)
    | some (.frz ns) => some (.list (ns.map .int))
    | some (.dct []) => some (.dict [])
    | _ => none
  | _, _ => none
def dat (p : Hh) (s : S) (w : W) : Option PyData := datW p s 12 w
mutual
/-- no list within -/
def noLst : PyData → Bool
  | .list _ => false
  | .tuple ds => noLsts ds
  | .none => true
  | .bool _ => true
  | .int _ => true
  | .str _ => true
  | .dict _ => true
def noLsts : List PyData → Bool
  | [] => true
  | d :: r => noLst d && noLsts r
end
/-- == -/
def gEqD (p : Hh) (x y : W) (s : S) : Option Bool := match dat p s x, dat p s y with
  | some d, some e => if SeqAt.shaped d && SeqAt.shaped e then some (PyData.eqv d e) else none
  | _, _ => none
def gEqB (p : Hh) (x y : W) (s : S) : Option Bool := match x with
  | .int i => (match y with
    | .int j => some (decide (i = j))
    | _ => gEqD p x y s)
  | _ => gEqD p x y s
def gEq (p : Hh) (x y : W) (s : S) : O2 := match gEqB p x y s with
  | some b => some (.bl b, s)
  | none => none
def gNe (p : Hh) (x y : W) (s : S) : O2 := match gEqB p x y s with
  | some b => some (.bl (!b), s)
  | none => none
/-- repr -/
def fRepr (p : Hh) (xs : List W) (s : S) : O2 := match xs with
  | [x] => (match dat p s x with
    | some d => if d.showable && (!d.hasDict || noLst d) && decide (d.depth ≤ 40) && decide (d.shown.length ≤ 1000000) then some (.str d.shown, s) else none
    | none => none)
  | _ => none
/-- in -/
def gInB (p : Hh) (x y : W) (s : S) : Option Bool := match dat p s x, dat p s y with
  | some d, some (.list ds) => if SeqAt.shaped d && SeqAt.shaped (.list ds) then some (ds.any fun z => PyData.eqv z d) else none
  | some d, some (.tuple ds) => if SeqAt.shaped d && SeqAt.shaped (.tuple ds) then some (ds.any fun z => PyData.eqv z d) else none
  | _, _ => none
def gIn (p : Hh) (x y : W) (s : S) : O2 := match gInB p x y s with
  | some b => some (.bl b, s)
  | none => none
def gNotIn (p : Hh) (x y : W) (s : S) : O2 := match gInB p x y s with
  | some b => some (.bl (!b), s)
  | none => none
section
variable {G : GE} {X : Cx} {ρ : List Addr} {H : Hp} {p : Hh} {s : S} {pins : List (Addr × Obj)} {σ : L2.St} {sh : Shared}
theorem ns_reads {h : Heap} : ∀ {ns : List Int} {us : List Value}, Vals (ns.map V.int) us → ReadsAll h us (ns.map .int) []
  | [], _, r => by cases r; exact .nil
  | i :: ns, _, r => by
    cases r with
    | cons r1 r2 =>
      obtain ⟨t, rfl⟩ := r1
      exact .cons (.int i t) (ns_reads r2)
theorem reads_all {f : W → Option PyData} (hf : ∀ w v u d, f w = some d → RV G ρ H w v → RelV v u → ∃ as, Reads sh.heap u d as ∧ (noLst d = true → sysModules ∉ as)) :
    ∀ {ws : List W} {vs : List V} {us : List Value} {ds : List PyData}, mapO f ws = some ds → RVs G ρ H ws vs → Vals vs us → ∃ as, ReadsAll sh.heap us ds as ∧ (noLsts ds = true → sysModules ∉ as)
  | [], _, us, ds, h, r, rv => by
    simp only [mapO] at h
    cases h; cases r; cases rv
    exact ⟨_, .nil, fun _ m => by cases m⟩
  | w :: ws, _, us, ds, h, r, rv => by
    simp only [mapO] at h
    cases r with
    | cons r1 r2 =>
      cases rv with
      | cons v1 v2 =>
        cases q : f w with
        | none => rw [q] at h; cases h
        | some d =>
          rw [q] at h
          dsimp only at h
          cases q2 : mapO f ws with
          | none => rw [q2] at h; cases h
          | some ds' =>
            rw [q2] at h
            cases h
            obtain ⟨as, a1, a2⟩ := hf w _ _ d q r1 v1
            obtain ⟨bs, b1, b2⟩ := reads_all hf q2 r2 v2
            refine ⟨_, .cons a1 b1, fun z m => ?_⟩
            simp only [noLsts, Bool.and_eq_true] at z
            exact (List.mem_append.mp m).elim (a2 z.1) (b2 z.2)
theorem reads_w (I : Inv X pins σ H sh) (rp : Rep G ρ p s H) : ∀ (f : Nat) (w : W) (v : V) (u : Value) (d : PyData), datW p s f w = some d → RV G ρ H w v → RelV v u → ∃ as, Reads sh.heap u d as ∧ (noLst d = true → sysModules ∉ as)
  | f, .non, v, u, d, h, r, ru => by
    have h : some PyData.none = some d := by cases f <;> exact h
    cases h; cases r; cases ru
    exact ⟨_, .none, fun _ m => by cases m⟩
  | f, .bl b, v, u, d, h, r, ru => by
    have h : some (PyData.bool b) = some d := by cases f <;> exact h
    cases h; cases r; cases ru
    exact ⟨_, .bool b, fun _ m => by cases m⟩
  | f, .int i, v, u, d, h, r, ru => by
    have h : some (PyData.int i) = some d := by cases f <;> exact h
    cases h; cases r
    obtain ⟨t, rfl⟩ := ru
    exact ⟨_, .int i t, fun _ m => by cases m⟩
  | f, .str z, v, u, d, h, r, ru => by
    have h : some (PyData.str z) = some d := by cases f <;> exact h
    cases h; cases r
    obtain ⟨t, rfl⟩ := ru
    exact ⟨_, .str z t, fun _ m => by cases m⟩
  | 0, .tup ws, v, u, d, h, r, ru => by cases h
  | 0, .ref n, v, u, d, h, r, ru => by cases h
  | f + 1, .tup ws, v, u, d, h, r, ru => by
    simp only [datW] at h
    cases q : mapO (datW p s f) ws with
    | none => rw [q] at h; cases h
    | some ds =>
      rw [q] at h
      cases h
      cases r with
      | @tup a _ vs na ha r =>
        cases ru
        obtain ⟨its, rv, ⟨o, ho, hc, n, hd⟩, _⟩ := I.tuple (xs := vs) (SqT.of ha)
        obtain ⟨as, a1, a2⟩ := reads_all (reads_w I rp f) q r rv
        exact ⟨_, .tuple ho hc hd a1, a2⟩
  | f + 1, .ref n, v, u, d, h, r, ru => by
    simp only [datW] at h
    cases r with
    | @ref _ a e =>
      cases ru
      cases q : rd p s n with
      | none => rw [q] at h; cases h
      | some o =>
        obtain ⟨hu, hh, ro⟩ := rp.at q e
        rw [q] at h
        cases ro with
        | @lst ws vs r =>
          dsimp only at h
          cases q2 : mapO (datW p s f) ws with
          | none => rw [q2] at h; cases h
          | some ds =>
            rw [q2] at h
            cases h
            obtain ⟨its, rv, ⟨o, n, ho, hc, _, hd⟩, _⟩ := I.list (xs := vs) (SqL.of hh)
            obtain ⟨as, a1, a2⟩ := reads_all (reads_w I rp f) q2 r rv
            exact ⟨_, .list ho hc hd a1, fun z => nomatch z⟩
        | @frz ns o =>
          cases h
          obtain ⟨its, rv, ⟨o, n, ho, hc, _, hd⟩, _⟩ := I.list (xs := ns.map V.int) (.inl (.inr ⟨o, hh⟩))
          exact ⟨_, .list ho hc hd (ns_reads rv), fun z => nomatch z⟩
        | @dK kvs ks r r2 =>
          cases kvs with
          | cons _ _ => cases h
          | nil =>
            cases h
            have e1 : ks = [] := by
              cases ks with
              | nil => rfl
              | cons _ _ => cases r
            subst e1
            obtain ⟨_, hsm, vs, rel, o, es, ep, h1, h2, h3, h4, h5, h6⟩ := (show ObjOk X.prog X.w H sh.heap a (.dK []) from I.hok a _ hh)
            cases rel
            have e2 : es.toList = [] := by
              cases q3 : es.toList with
              | nil => rfl
              | cons _ _ => rw [q3] at h5; cases h5
            refine ⟨_, .dict h1 h2.1 h3 (by rw [e2]; exact .nil) (by rw [e2]; exact .nil), fun _ m => ?_⟩
            rcases List.mem_append.mp m with m | m
            · rcases List.mem_cons.mp m with m | m
              · rw [← m] at hsm
                exact absurd (beq_self_eq_true sysModules) (by rw [hsm]; exact Bool.false_ne_true)
              · cases m
            · cases m
        | dT _ _ => cases h
        | ins _ _ => cases h
theorem eqD_ok (hu : X.A.units + 64 < cLine) (I : Inv X pins σ H sh) (rp : Rep G ρ p s H) {x y : W} {v u : V} {v' u' : Value} {b : Bool} (e : gEqD p x y s = some b) (r1 : RV G ρ H x v) (r2 : RV G ρ H y u) (rv : RelV v v') (ru : RelV u u') :
    (∀ {Q E : Value → Shared → Prop}, Q (.bool b) sh → wpAny (model X.prog X.w) X.A (compareOp .Eq v' u') Q E sh) ∧ (∀ {Q E : Value → Shared → Prop}, Q (.bool (!b)) sh → wpAny (model X.prog X.w) X.A (compareOp .NotEq v' u') Q E sh) := by
  unfold gEqD at e
  cases d1 : dat p s x with
  | none => rw [d1] at e; cases e
  | some d =>
    cases d2 : dat p s y with
    | none => rw [d1, d2] at e; cases e
    | some d' =>
      rw [d1, d2] at e
      dsimp only at e
      split at e
      · rename_i hs
        obtain ⟨s1, s2⟩ := Bool.and_eq_true_iff.mp hs
        cases e
        obtain ⟨as, a1, _⟩ := reads_w I rp _ _ _ _ _ d1 r1 rv
        obtain ⟨bs, b1, _⟩ := reads_w I rp _ _ _ _ _ d2 r2 ru
        exact ⟨fun q => SeqAt.compareEq_shaped a1 b1 s1 s2 hu q, fun q => SeqAt.compareNe_shaped a1 b1 s1 s2 hu q⟩
      · cases e
theorem eqB_cases {x y : W} {b : Bool} (e : gEqB p x y s = some b) : gEqD p x y s = some b ∨ ∃ i j, x = .int i ∧ y = .int j ∧ b = decide (i = j) := by
  unfold gEqB at e
  cases x with
  | int i => cases y with
    | int j => cases e; exact .inr ⟨i, j, rfl, rfl, rfl⟩
    | _ => exact .inl e
  | _ => exact .inl e
theorem i_eq (hu : X.A.units + 64 < cLine) : OpI G X (compareOp .Eq) gEq := by
  intro p pins s σ H v u v' u' Q I rv ru ⟨ρ, s0, x, y, rp, r1, r2, q⟩
  unfold gEq at q
  cases e : gEqB p x y s0 with
  | none => rw [e] at q; exact q.elim
  | some b =>
    rw [e] at q
    rcases eqB_cases e with e | ⟨i, j, rfl, rfl, rfl⟩
    · exact (eqD_ok hu I rp e r1 r2 rv ru).1 ⟨.bl _, H, I, rfl, po_v q rp (.bl _)⟩
    · cases r1; cases r2
      have z := po_v q rp (.bl _)
      refine op_eq pins s σ H _ _ v' u' Q I rv ru ⟨rfl, ?_⟩
      rw [dec_int]
      exact z
theorem i_ne (hu : X.A.units + 64 < cLine) : OpI G X (compareOp .NotEq) gNe := by
  intro p pins s σ H v u v' u' Q I rv ru ⟨ρ, s0, x, y, rp, r1, r2, q⟩
  unfold gNe at q
  cases e : gEqB p x y s0 with
  | none => rw [e] at q; exact q.elim
  | some b =>
    rw [e] at q
    rcases eqB_cases e with e | ⟨i, j, rfl, rfl, rfl⟩
    · exact (eqD_ok hu I rp e r1 r2 rv ru).2 ⟨.bl _, H, I, rfl, po_v q rp (.bl _)⟩
    · cases r1; cases r2
      have z := po_v q rp (.bl _)
      refine op_ne pins s σ H _ _ v' u' Q I rv ru ⟨rfl, ?_⟩
      rw [dec_int]
      exact z
theorem inB_ok (hu : X.A.units + 65 < cLine) (I : Inv X pins σ H sh) (rp : Rep G ρ p s H) {x y : W} {v u : V} {v' u' : Value} {b : Bool} (e : gInB p x y s = some b) (r1 : RV G ρ H x v) (r2 : RV G ρ H y u) (rv : RelV v v') (ru : RelV u u') :
    (∀ {Q E : Value → Shared → Prop}, Q (.bool b) sh → wpAny (model X.prog X.w) X.A (compareOp .In v' u') Q E sh) ∧ (∀ {Q E : Value → Shared → Prop}, Q (.bool (!b)) sh → wpAny (model X.prog X.w) X.A (compareOp .NotIn v' u') Q E sh) := by
  unfold gInB at e
  cases d1 : dat p s x with
  | none => rw [d1] at e; cases e
  | some d =>
    cases d2 : dat p s y with
    | none => rw [d1, d2] at e; cases e
    | some d' =>
      rw [d1, d2] at e
      obtain ⟨as, a1, _⟩ := reads_w I rp _ _ _ _ _ d1 r1 rv
      obtain ⟨bs, b1, _⟩ := reads_w I rp _ _ _ _ _ d2 r2 ru
      cases d' with
      | list ds =>
        dsimp only at e
        split at e
        · rename_i hs
          obtain ⟨s1, s2⟩ := Bool.and_eq_true_iff.mp hs
          cases e
          exact ⟨fun q => SeqAt.in_list_reads b1 a1 (SeqAt.canLay_of_shaped s2) (SeqAt.canLay_of_shaped s1) (room_in_shaped s1 hu) q, fun q => SeqAt.notIn_list_reads b1 a1 (SeqAt.canLay_of_shaped s2) (SeqAt.canLay_of_shaped s1) (room_in_shaped s1 hu) q⟩
        · cases e
      | tuple ds =>
        dsimp only at e
        split at e
        · rename_i hs
          obtain ⟨s1, s2⟩ := Bool.and_eq_true_iff.mp hs
          cases e
          exact ⟨fun q => SeqAt.in_tuple_reads b1 a1 (SeqAt.canLay_of_shaped s2) (SeqAt.canLay_of_shaped s1) (room_in_shaped s1 hu) q, fun q => SeqAt.notIn_tuple_reads b1 a1 (SeqAt.canLay_of_shaped s2) (SeqAt.canLay_of_shaped s1) (room_in_shaped s1 hu) q⟩
        · cases e
      | _ => cases e
theorem i_in (hu : X.A.units + 65 < cLine) : OpI G X (compareOp .In) gIn := by
  intro p pins s σ H v u v' u' Q I rv ru ⟨ρ, s0, x, y, rp, r1, r2, q⟩
  unfold gIn at q
  cases e : gInB p x y s0 with
  | none => rw [e] at q; exact q.elim
  | some b =>
    rw [e] at q
    exact (inB_ok hu I rp e r1 r2 rv ru).1 ⟨.bl _, H, I, rfl, po_v q rp (.bl _)⟩
theorem i_notIn (hu : X.A.units + 65 < cLine) : OpI G X (compareOp .NotIn) gNotIn := by
  intro p pins s σ H v u v' u' Q I rv ru ⟨ρ, s0, x, y, rp, r1, r2, q⟩
  unfold gNotIn at q
  cases e : gInB p x y s0 with
  | none => rw [e] at q; exact q.elim
  | some b =>
    rw [e] at q
    exact (inB_ok hu I rp e r1 r2 rv ru).2 ⟨.bl _, H, I, rfl, po_v q rp (.bl _)⟩
theorem c_repr (hg : X.A.guards = some []) (hu : X.A.units + 64 < cLine) : CallI G X (.builtin "repr") fRepr := by
  intro p pins s σ H vs us Q I rv ⟨ρ, s0, xs, rp, r1, q⟩
  unfold fRepr at q
  match xs, vs, us, r1, rv with
  | [], _, _, _, _ => exact q.elim
  | _ :: _ :: _, _, _, _, _ => exact q.elim
  | [x], [v], [u], .cons r1 .nil, .cons r2 .nil =>
    dsimp only at q
    cases d1 : dat p s0 x with
    | none => rw [d1] at q; exact q.elim
    | some d =>
      rw [d1] at q
      dsimp only at q
      split at q
      · rename_i hc
        obtain ⟨hc, h3⟩ := Bool.and_eq_true_iff.mp hc
        obtain ⟨hc, h2⟩ := Bool.and_eq_true_iff.mp hc
        obtain ⟨h1, h4⟩ := Bool.and_eq_true_iff.mp hc
        have h2 := of_decide_eq_true h2
        have h3 := million (of_decide_eq_true h3)
        have qq := po_v q rp (.str _)
        obtain ⟨as, a1, a2⟩ := reads_w I rp _ _ _ _ _ d1 r1 r2
        have rf : ∀ a, u = .ref a → wpAny (model X.prog X.w) X.A (call (.builtin "repr") [u]) (EP X pins σ Q) X.xe s := fun a e => by
          subst e
          refine repr_of_reads' (h₀ := s.heap) a1 h1 (fun z => a2 (by rw [z] at h4; exact h4)) hg (by have := h2; omega) (fun _ _ h => h) (fun h' u tk hk => ⟨.str _, H, I.kept hk, ⟨_, rfl⟩, qq⟩) h3
        cases a1 with
        | none => exact P.repr_of_none ⟨.str _, H, I.tok _, ⟨_, rfl⟩, qq⟩
        | bool b => exact P.repr_of_bool ⟨.str _, H, I.tok _, ⟨_, rfl⟩, qq⟩
        | int i t => exact P.repr_of_int (of_decide_eq_true h1) ⟨.str _, H, I.tok _, ⟨_, rfl⟩, qq⟩
        | str z t => exact P.repr_of_str ⟨.str _, H, I.tok _, ⟨_, rfl⟩, qq⟩ h3
        | list g1 g2 g3 g4 => exact rf _ rfl
        | tuple g1 g2 g3 g4 => exact rf _ rfl
        | dict g1 g2 g3 g4 g5 => exact rf _ rfl
      · exact q.elim
end
end CC
set_option Elab.async false
set_option linter.all false
set_option maxRecDepth 100000
/-! CCPrim3: built-ins by call, isinstance, subscripts, slices, methods of lists -/
namespace CC
open PySem PySem.Spec PyProof.Rows L2

def seqItems (p : Hh) (s : S) : W → Option (List W)
  | .tup ws => some ws
  | .ref n => cellItems p s n
  | _ => none
def fLen (p : Hh) (xs : List W) (s : S) : O2 := match xs with
  | [.str z] => if z.length ≤ 1000000 then some (.int z.length, s) else none
  | [w] => (match seqItems p s w with
    | some ws => some (.int ws.length, s)
    | none => none)
  | _ => none
def fList (p : Hh) (xs : List W) (s : S) : O2 := match xs with
  | [w] => (match seqItems p s w with
    | some ws => some (.ref (nxt p s), al s (.lst ws))
    | none => none)
  | _ => none
def fTuple (p : Hh) (xs : List W) (s : S) : O2 := match xs with
  | [w] => (match seqItems p s w with
    | some ws => some (.tup ws, s)
    | none => none)
  | _ => none
def fAbs (p : Hh) (xs : List W) (s : S) : O2 := match xs with
  | [.int i] => some (.int (if i < 0 then -i else i), s)
  | _ => none
def fMax2 (p : Hh) (xs : List W) (s : S) : O2 := match xs with
  | [.int i, .int j] => some (.int (if j > i then j else i), s)
  | _ => none
def fMin2 (p : Hh) (xs : List W) (s : S) : O2 := match xs with
  | [.int i, .int j] => some (.int (if j < i then j else i), s)
  | _ => none
def fInt (p : Hh) (xs : List W) (s : S) : O2 := match xs with
  | [.int i] => some (.int i, s)
  | [.bl b] => some (.int (if b then 1 else 0), s)
  | _ => none
def isBls : List W → Option (List Bool)
  | [] => some []
  | .bl b :: r => (match isBls r with | some q => some (b :: q) | none => none)
  | _ => none
def cellL (p : Hh) (s : S) : W → Option (List W)
  | .ref n => cellItems p s n
  | _ => none
def fSum (p : Hh) (xs : List W) (s : S) : O2 := match xs with
  | [w] => (match cellL p s w with
    | some ws => (match isInts ws with | some ns => some (.int ns.sum, s) | none => none)
    | none => none)
  | _ => none
def fAny (p : Hh) (xs : List W) (s : S) : O2 := match xs with
  | [w] => (match cellL p s w with
    | some ws => (match isBls ws with | some ns => some (.bl (ns.any id), s) | none => none)
    | none => none)
  | _ => none
def fAll (p : Hh) (xs : List W) (s : S) : O2 := match xs with
  | [w] => (match cellL p s w with
    | some ws => (match isBls ws with | some ns => some (.bl (ns.all id), s) | none => none)
    | none => none)
  | _ => none
section
variable {G : GE} {X : Cx} {ρ : List Addr} {H : Hp} {p : Hh} {s : S}
theorem seq_at {K : PySem.W.Frag} {w : W} {v : V} {ws : List W} (rp : Rep G ρ p s H) (r : RV G ρ H w v) (h : seqItems p s w = some ws) : ∃ a vs, v = .ref a ∧ RVs G ρ H ws vs ∧ (SqL K H a vs ∨ (SqT K H a vs ∧ w = .tup ws)) := by
  cases r with
  | @tup a ws' vs na ha r => cases h; exact ⟨a, vs, rfl, r, .inr ⟨SqT.of ha, rfl⟩⟩
  | @ref n a e =>
    obtain ⟨vs, h1, h2⟩ := cell_seq (K := K) rp h e
    exact ⟨a, vs, rfl, h2, .inl h1⟩
  | _ => cases h
theorem cellL_at {K : PySem.W.Frag} {w : W} {v : V} {ws : List W} (rp : Rep G ρ p s H) (r : RV G ρ H w v) (h : cellL p s w = some ws) : ∃ a vs, v = .ref a ∧ RVs G ρ H ws vs ∧ SqL K H a vs := by
  cases r with
  | @ref n a e =>
    obtain ⟨vs, h1, h2⟩ := cell_seq (K := K) rp h e
    exact ⟨a, vs, rfl, h2, h1⟩
  | _ => cases h
theorem c_len : CallI G X (.builtin "len") fLen := by
  refine callI_of (CallR.or call_len_seq call_len_str) fun p ρ s H xs vs Q rp r h => ?_
  match xs, vs, r, h with
  | [], _, _, h => exact h.elim
  | _ :: _ :: _, _, _, h => exact (by unfold fLen at h; split at h <;> first | exact h.elim | simp_all)
  | [w], [v], .cons r1 .nil, h =>
    unfold fLen at h
    split at h
    · rename_i z e
      cases e
      cases r1
      split at h
      · rename_i hl
        exact .inr ⟨z, rfl, million hl, po_v h rp (.int _)⟩
      · exact h.elim
    · rename_i w' _ e
      cases e
      split at h
      · rename_i ws e
        obtain ⟨a, vs, rfl, r2, r3⟩ := seq_at (K := X.K) rp r1 e
        have q := po_v h rp (.int _)
        rw [r2.len] at q
        exact .inl ⟨a, vs, rfl, r3.imp id (·.1), q⟩
      · exact h.elim
    · exact h.elim
theorem c_list : CallI G X (.type "list") fList := by
  refine callI_of call_list_of fun p ρ s H xs vs Q rp r h => ?_
  match xs, vs, r, h with
  | [], _, _, h => exact h.elim
  | _ :: _ :: _, _, _, h => exact h.elim
  | [w], [v], .cons r1 .nil, h =>
    unfold fList at h
    dsimp only at h
    split at h
    · rename_i ws e
      obtain ⟨a, vs, rfl, r2, r3⟩ := seq_at (K := X.K) rp r1 e
      exact ⟨a, vs, rfl, r3.imp id (·.1), fun l hl => po_lst rp r2 h hl⟩
    · exact h.elim
theorem c_tuple : CallI G X (.type "tuple") fTuple := by
  refine callI_of call_tuple_of fun p ρ s H xs vs Q rp r h => ?_
  match xs, vs, r, h with
  | [], _, _, h => exact h.elim
  | _ :: _ :: _, _, _, h => exact h.elim
  | [w], [v], .cons r1 .nil, h =>
    unfold fTuple at h
    dsimp only at h
    split at h
    · rename_i ws e
      obtain ⟨a, vs, rfl, r2, r3⟩ := seq_at (K := X.K) rp r1 e
      refine ⟨a, vs, rfl, ?_⟩
      rcases r3 with r3 | ⟨r3, e2⟩
      · exact .inl ⟨r3, fun l hl => po_tup rp r2 h hl⟩
      · subst e2
        exact .inr ⟨r3, po_v h rp r1⟩
    · exact h.elim
theorem c_abs : CallI G X (.builtin "abs") fAbs := by
  refine callI_of call_abs fun p ρ s H xs vs Q rp r h => ?_
  unfold fAbs at h
  split at h
  · cases r with | cons r1 r2 => cases r1; cases r2; exact ⟨_, rfl, po_v h rp (.int _)⟩
  · exact h.elim
theorem c_max2 (hc : X.calm = true) : CallI G X (.builtin "max") fMax2 := by
  refine callI_of (call_max2 hc) fun p ρ s H xs vs Q rp r h => ?_
  unfold fMax2 at h
  split at h
  · cases r with | cons r1 r2 => cases r1; cases r2 with | cons r2 r3 => cases r2; cases r3; exact ⟨_, _, rfl, po_v h rp (.int _)⟩
  · exact h.elim
theorem c_min2 (hc : X.calm = true) : CallI G X (.builtin "min") fMin2 := by
  refine callI_of (call_min2 hc) fun p ρ s H xs vs Q rp r h => ?_
  unfold fMin2 at h
  split at h
  · cases r with | cons r1 r2 => cases r1; cases r2 with | cons r2 r3 => cases r2; cases r3; exact ⟨_, _, rfl, po_v h rp (.int _)⟩
  · exact h.elim
theorem c_int : CallI G X (.type "int") fInt := by
  refine callI_of call_int1 fun p ρ s H xs vs Q rp r h => ?_
  unfold fInt at h
  split at h
  · cases r with | cons r1 r2 => cases r1; cases r2; exact .inl ⟨_, rfl, po_v h rp (.int _)⟩
  · cases r with | cons r1 r2 => cases r1; cases r2; exact .inr ⟨_, rfl, po_v h rp (.int _)⟩
  · exact h.elim
theorem isBls_ok {ρ : List Addr} {H : Hp} : ∀ {ws : List W} {vs : List V} {ns : List Bool}, isBls ws = some ns → RVs G ρ H ws vs → vs = ns.map V.bl
  | [], _, ns, h, r => by simp only [isBls] at h; cases h; cases r; rfl
  | w :: ws, _, ns, h, r => by
    cases r with
    | cons r1 r2 =>
      cases r1 with
      | bl i =>
        simp only [isBls] at h
        cases q : isBls ws with
        | none => rw [q] at h; cases h
        | some ms =>
          rw [q] at h
          cases h
          rw [isBls_ok q r2]
          rfl
      | _ => cases h
theorem c_sum (hc : X.calm = true) : CallI G X (.builtin "sum") fSum := by
  refine callI_of (cr_sum hc) fun p ρ s H xs vs Q rp r h => ?_
  match xs, vs, r, h with
  | [], _, _, h => exact h.elim
  | _ :: _ :: _, _, _, h => exact h.elim
  | [w], [v], .cons r1 .nil, h =>
    unfold fSum at h
    dsimp only at h
    split at h
    · rename_i ws e
      obtain ⟨a, vs, rfl, r2, r3⟩ := cellL_at (K := X.K) rp r1 e
      split at h
      · rename_i ns e2
        obtain rfl := isInts_ok e2 r2
        exact ⟨a, ns, rfl, r3, po_v h rp (.int _)⟩
      · exact h.elim
    · exact h.elim
theorem c_any (hc : X.calm = true) : CallI G X (.builtin "any") fAny := by
  refine callI_of (cr_any hc) fun p ρ s H xs vs Q rp r h => ?_
  match xs, vs, r, h with
  | [], _, _, h => exact h.elim
  | _ :: _ :: _, _, _, h => exact h.elim
  | [w], [v], .cons r1 .nil, h =>
    unfold fAny at h
    dsimp only at h
    split at h
    · rename_i ws e
      obtain ⟨a, vs, rfl, r2, r3⟩ := cellL_at (K := X.K) rp r1 e
      split at h
      · rename_i ns e2
        obtain rfl := isBls_ok e2 r2
        exact ⟨a, ns, rfl, r3, po_v h rp (.bl _)⟩
      · exact h.elim
    · exact h.elim
theorem c_all (hc : X.calm = true) : CallI G X (.builtin "all") fAll := by
  refine callI_of (cr_all hc) fun p ρ s H xs vs Q rp r h => ?_
  match xs, vs, r, h with
  | [], _, _, h => exact h.elim
  | _ :: _ :: _, _, _, h => exact h.elim
  | [w], [v], .cons r1 .nil, h =>
    unfold fAll at h
    dsimp only at h
    split at h
    · rename_i ws e
      obtain ⟨a, vs, rfl, r2, r3⟩ := cellL_at (K := X.K) rp r1 e
      split at h
      · rename_i ns e2
        obtain rfl := isBls_ok e2 r2
        exact ⟨a, ns, rfl, r3, po_v h rp (.bl _)⟩
      · exact h.elim
    · exact h.elim
end
end CC
set_option Elab.async false
set_option linter.all false
set_option maxRecDepth 100000
/-! CCIsi: isinstance -/
namespace CC
open PySem PySem.Spec PyProof.Rows L2

inductive TK where
  | non | bl | int | str | lst | tup | dct | own (c : Nat)
def tyW (p : Hh) (s : S) : W → Option TK
  | .non => some .non
  | .bl _ => some .bl
  | .int _ => some .int
  | .str _ => some .str
  | .tup _ => some .tup
  | .ref n => match rd p s n with
    | some (.lst _) => some .lst
    | some (.frz _) => some .lst
    | some (.dct _) => some .dct
    | some (.dtt _) => some .dct
    | some (.ins c _) => some (.own c)
    | none => none
def tyVal (G : GE) : TK → Value
  | .non => .type "NoneType"
  | .bl => .type "bool"
  | .int => .type "int"
  | .str => .type "str"
  | .lst => .type "list"
  | .tup => .type "tuple"
  | .dct => .type "dict"
  | .own c => .ref (G.cls c)
def lkB (c : Nat) : List (Nat × Bool) → Option Bool
  | [] => none
  | (d, b) :: r => if c = d then some b else lkB c r
/-- the answers for a built-in type: the seven kinds, then the classes of the text -/
def qT (a0 a1 a2 a3 a4 a5 a6 : Bool) (ow : List (Nat × Bool)) : TK → Option Bool
  | .non => some a0
  | .bl => some a1
  | .int => some a2
  | .str => some a3
  | .lst => some a4
  | .tup => some a5
  | .dct => some a6
  | .own c => lkB c ow
def qInt := qT false true true false false false false
def qBool := qT false true false false false false false
def qTup := qT false false false false false true false
def qLst := qT false false false false true false false
def qStr := qT false false false true false false false
def qDct := qT false false false false false false true
def qOwn := qT false false false false false false false
def eIsi (p : Hh) (q : TK → Option Bool) (ma : Lo → S → R W) : Lo → S → R W := fun l s => (ma l s).bind fun w s1 => match tyW p s1 w with
  | some t => (match q t with
    | some b => .ok (.bl b) s1
    | none => .bad)
  | none => .bad
/-- what a class of the text must have to be asked for -/
structure CI_ (G : GE) (K : PySem.W.Frag) (c : Nat) : Prop where
  cl : Cls K (G.cls c)
  ha : PySem.W.findIn K (.ref (G.cls c)) "__class__" = some (some (.builtin "object.__class__"))
  hn : PySem.W.specialIn K (.builtin "object.__class__") "__get__" = some (some (.builtin "getset_descriptor.__get__"))
  ht : PySem.W.takesIn K (.builtin "object.__class__") = some true
  hm : PySem.W.mroIn K (G.cls c) (.type "object") = some true
/-- the answers q are those for the class value cv -/
structure QI (G : GE) (K : PySem.W.Frag) (cv : Value) (q : TK → Option Bool) : Prop where
  an : ∀ t b, q t = some b → PySem.W.kitOne K (tyVal G t) cv = some b
  ow : ∀ c b, q (.own c) = some b → CI_ G K c
theorem qi_ty {G : GE} {K : PySem.W.Frag} {T : String} {a0 a1 a2 a3 a4 a5 a6 : Bool} {ow : List (Nat × Bool)} (h0 : kitB "NoneType" T = some a0) (h1 : kitB "bool" T = some a1) (h2 : kitB "int" T = some a2) (h3 : kitB "str" T = some a3) (h4 : kitB "list" T = some a4) (h5 : kitB "tuple" T = some a5) (h6 : kitB "dict" T = some a6)
    (h : ∀ c b, lkB c ow = some b → CI_ G K c ∧ PySem.W.kitOne K (.ref (G.cls c)) (.type T) = some b) : QI G K (.type T) (qT a0 a1 a2 a3 a4 a5 a6 ow) where
  an := fun t b e => by
    cases t with
    | non => cases e; exact kit_ty h0
    | bl => cases e; exact kit_ty h1
    | int => cases e; exact kit_ty h2
    | str => cases e; exact kit_ty h3
    | lst => cases e; exact kit_ty h4
    | tup => cases e; exact kit_ty h5
    | dct => cases e; exact kit_ty h6
    | own c => exact (h c b e).2
  ow := fun c b e => (h c b e).1
section
variable {G : GE} {X : Cx} {ρ : List Addr} {H : Hp} {p : Hh} {s : S} {E : WX}
theorem ty_of {cv : Value} {q : TK → Option Bool} {K : PySem.W.Frag} (F : QI G K cv q) {w : W} {v : V} {t : TK} {b : Bool} (rp : Rep G ρ p s H) (r : RV G ρ H w v) (h : tyW p s w = some t) (hq : q t = some b) : TyX K H v (tyVal G t) := by
  cases r with
  | non => cases h; exact .base .non
  | bl b => cases h; exact .base (.bl _)
  | int i => cases h; exact .base (.int _)
  | str z => cases h; exact .base (.str _)
  | @tup a ws vs na ha r => cases h; exact .base (.tup ha)
  | @ref n a e =>
    simp only [tyW] at h
    cases z : rd p s n with
    | none => rw [z] at h; cases h
    | some o =>
      rw [z] at h
      obtain ⟨u, hu, ro⟩ := rp.at z e
      cases ro with
      | lst r => cases h; exact .base (.lst hu)
      | frz => cases h; exact .base (.frz hu)
      | dK r r2 => cases h; exact .base (.dK hu)
      | dT r r2 => cases h; exact .base (.dT hu)
      | @ins c fs gs dx k r =>
        cases h
        have C := F.ow c b hq
        exact .base (.ins hu C.cl C.ha C.hn C.ht C.hm)
variable {a tn : Expr} {ma : Lo → S → R W} {pos p' : Pos}
theorem se_isi {q : TK → Option Bool} {c : V} {cv : Value} (F : QI G X.K cv q) (hcv : ClsV c cv) (hm : X.mg "isinstance" = none) (ha : SE G p E X a ma) (ht : PE X tn (tC c)) (hg : Gl X "isinstance" := by rfl)
    (hs : starEach (a :: [tn]) X.env = (false, eval a X.env) :: starEach [tn] X.env := by rfl) (hs2 : starEach (tn :: []) X.env = (false, eval tn X.env) :: starEach [] X.env := by rfl)
    (hpl : (backTo pos (starEach [tn] X.env)).any (·.1) = false := by rfl) : SE G p E X (.Call (.Name "isinstance" p') [a, tn] [] pos) (eIsi p q ma) :=
  PE_imp (pe_callB (x := "isinstance") call_isi hg hm (by decide +kernel) (pa_cons ha (pa_cons ht pa_nil hs2) hs) (by decide) (by decide) hs hpl) fun σ H Q ⟨ρ, l, s, rl, rp, h⟩ => by
    unfold eIsi at h
    refine ⟨ρ, l, s, rl, rp, PoA.bind h fun w s1 ρ1 H1 v x1 rp1 rv1 h1 => ?_⟩
    cases z : tyW p s1 w with
    | none => rw [z] at h1; exact h1.elim
    | some t =>
      rw [z] at h1
      dsimp only at h1
      cases z2 : q t with
      | none => rw [z2] at h1; exact h1.elim
      | some b =>
        rw [z2] at h1
        exact ⟨v, c, tyVal G t, cv, b, rfl, hcv, ty_of F rp1 rv1 z z2, F.an t b z2, h1 ρ1 H1 _ Ex.rfl' rp1 (.bl b)⟩
theorem se_isiT {q : TK → Option Bool} {T : String} {x : Str} {q' : Pos} (F : QI G X.K (.type T) q) (hm : X.mg "isinstance" = none) (hmx : X.mg x = none) (ha : SE G p E X a ma) (hv : bootBuiltins x = some (.type T) := by decide +kernel) (hg2 : Gl X x := by rfl) (hn : x ≠ "__name__" := by decide) (hdb : (x == ("__debug__" : Str)) = false := by decide) (hg : Gl X "isinstance" := by rfl)
    (hs : starEach (a :: [.Name x q']) X.env = (false, eval a X.env) :: starEach [.Name x q'] X.env := by rfl) (hs2 : starEach (.Name x q' :: []) X.env = (false, eval (.Name x q') X.env) :: starEach [] X.env := by rfl)
    (hpl : (backTo pos (starEach [.Name x q'] X.env)).any (·.1) = false := by rfl) : SE G p E X (.Call (.Name "isinstance" p') [a, .Name x q'] [] pos) (eIsi p q ma) :=
  se_isi F (.ty T) hm ha (pe_bltn hg2 hmx hv rfl hn hdb) hg hs hs2 hpl
theorem se_isiC {q : TK → Option Bool} {C : Addr} {x : Str} {q' : Pos} (F : QI G X.K (.ref C) q) (hm : X.mg "isinstance" = none) (hmx : X.mg x = some (.ref C)) (ha : SE G p E X a ma) (hg2 : Gl X x := by rfl) (hdb : (x == ("__debug__" : Str)) = false := by decide) (hg : Gl X "isinstance" := by rfl)
    (hs : starEach (a :: [.Name x q']) X.env = (false, eval a X.env) :: starEach [.Name x q'] X.env := by rfl) (hs2 : starEach (.Name x q' :: []) X.env = (false, eval (.Name x q') X.env) :: starEach [] X.env := by rfl)
    (hpl : (backTo pos (starEach [.Name x q'] X.env)).any (·.1) = false := by rfl) : SE G p E X (.Call (.Name "isinstance" p') [a, .Name x q'] [] pos) (eIsi p q ma) :=
  se_isi F (.own C) hm ha (pe_glob hg2 hmx rfl hdb) hg hs hs2 hpl
end
section
variable {G : GE} {K : PySem.W.Frag}
theorem q_int : QI G K (.type "int") (qInt []) := qi_ty (by decide +kernel) (by decide +kernel) (by decide +kernel) (by decide +kernel) (by decide +kernel) (by decide +kernel) (by decide +kernel) fun c b e => nomatch e
theorem q_bool : QI G K (.type "bool") (qBool []) := qi_ty (by decide +kernel) (by decide +kernel) (by decide +kernel) (by decide +kernel) (by decide +kernel) (by decide +kernel) (by decide +kernel) fun c b e => nomatch e
theorem q_tup : QI G K (.type "tuple") (qTup []) := qi_ty (by decide +kernel) (by decide +kernel) (by decide +kernel) (by decide +kernel) (by decide +kernel) (by decide +kernel) (by decide +kernel) fun c b e => nomatch e
theorem q_lst : QI G K (.type "list") (qLst []) := qi_ty (by decide +kernel) (by decide +kernel) (by decide +kernel) (by decide +kernel) (by decide +kernel) (by decide +kernel) (by decide +kernel) fun c b e => nomatch e
theorem q_str : QI G K (.type "str") (qStr []) := qi_ty (by decide +kernel) (by decide +kernel) (by decide +kernel) (by decide +kernel) (by decide +kernel) (by decide +kernel) (by decide +kernel) fun c b e => nomatch e
end
end CC
set_option Elab.async false
set_option linter.all false
set_option maxRecDepth 100000
/-! CCSub: subscripts, slices, dicts, methods of built-in types -/
namespace CC
open PySem PySem.Spec PyProof.Rows L2

def keyW : W → Option Key
  | .int i => some (.inl i)
  | .str z => some (.inr z)
  | _ => none
def keysW : W → Option (List Key)
  | .tup ws => mapO keyW ws
  | _ => none
section
variable {κ : Type} [DecidableEq κ]
def valW (k : κ) : List (κ × W) → Option W
  | [] => none
  | (j, w) :: r => if j = k then some w else valW k r
def setW (k : κ) (w : W) : List (κ × W) → List (κ × W)
  | [] => []
  | (j, u) :: r => if j = k then (j, w) :: setW k w r else (j, u) :: setW k w r
def hasW (k : κ) : List (κ × W) → Bool
  | [] => false
  | (j, _) :: r => if j = k then true else hasW k r
def putKW (kvs : List (κ × W)) (k : κ) (w : W) : List (κ × W) := if hasW k kvs then setW k w kvs else kvs ++ [(k, w)]
def dropW (k : κ) : List (κ × W) → List (κ × W)
  | [] => []
  | (j, u) :: r => if j = k then dropW k r else (j, u) :: dropW k r
section
variable {G : GE} {ρ : List Addr} {H : Hp}
theorem valW_ok {k : κ} : ∀ {kvs : List (κ × W)} {ks : List (κ × V)}, kvs.map (·.1) = ks.map (·.1) → RVs G ρ H (kvs.map (·.2)) (ks.map (·.2)) → (valW k kvs = none → valV ks k = none) ∧ ∀ w, valW k kvs = some w → ∃ v, valV ks k = some v ∧ RV G ρ H w v
  | [], [], _, _ => ⟨fun _ => rfl, fun w h => nomatch h⟩
  | [], _ :: _, h, _ => by simp at h
  | _ :: _, [], h, _ => by simp at h
  | (j, w) :: r, (j', v) :: r', h, q => by
    simp only [List.map_cons, List.cons.injEq] at h
    obtain ⟨rfl, h⟩ := h
    cases q with
    | cons q1 q2 =>
      simp only [valW]
      by_cases e : j = k
      · rw [if_pos e, valV_pos (p := (j, v)) e]
        exact ⟨(fun z => nomatch z), fun w' z => by cases z; exact ⟨v, rfl, q1⟩⟩
      · rw [if_neg e, valV_neg (p := (j, v)) e]
        exact valW_ok h q2
theorem hasW_ok {k : κ} : ∀ {kvs : List (κ × W)} {ks : List (κ × V)}, kvs.map (·.1) = ks.map (·.1) → hasW k kvs = ks.any fun kv => decide (kv.1 = k)
  | [], [], _ => rfl
  | [], _ :: _, h => by simp at h
  | _ :: _, [], h => by simp at h
  | (j, w) :: r, (j', v) :: r', h => by
    simp only [List.map_cons, List.cons.injEq] at h
    obtain ⟨rfl, h⟩ := h
    simp only [hasW, List.any_cons, hasW_ok h]
    by_cases e : j = k <;> simp [e]
theorem setW_ok {k : κ} {w : W} {v : V} (rv : RV G ρ H w v) : ∀ {kvs : List (κ × W)} {ks : List (κ × V)}, kvs.map (·.1) = ks.map (·.1) → RVs G ρ H (kvs.map (·.2)) (ks.map (·.2)) →
    (setW k w kvs).map (·.1) = (ks.map (fun kv => if kv.1 = k then (kv.1, v) else kv)).map (·.1) ∧ RVs G ρ H ((setW k w kvs).map (·.2)) ((ks.map (fun kv => if kv.1 = k then (kv.1, v) else kv)).map (·.2))
  | [], [], _, _ => ⟨rfl, .nil⟩
  | [], _ :: _, h, _ => by simp at h
  | _ :: _, [], h, _ => by simp at h
  | (j, u) :: r, (j', v') :: r', h, q => by
    simp only [List.map_cons, List.cons.injEq] at h
    obtain ⟨rfl, h⟩ := h
    cases q with
    | cons q1 q2 =>
      obtain ⟨h1, h2⟩ := setW_ok rv h q2
      simp only [setW, List.map_cons]
      by_cases e : j = k
      · rw [if_pos e, if_pos e]
        exact ⟨by rw [List.map_cons, h1], .cons rv h2⟩
      · rw [if_neg e, if_neg e]
        exact ⟨by rw [List.map_cons, h1], .cons q1 h2⟩
theorem putKW_ok {k : κ} {w : W} {v : V} (rv : RV G ρ H w v) {kvs : List (κ × W)} {ks : List (κ × V)} (h : kvs.map (·.1) = ks.map (·.1)) (q : RVs G ρ H (kvs.map (·.2)) (ks.map (·.2))) :
    (putKW kvs k w).map (·.1) = (putK ks k v).map (·.1) ∧ RVs G ρ H ((putKW kvs k w).map (·.2)) ((putK ks k v).map (·.2)) := by
  unfold putKW putK
  rw [hasW_ok h]
  by_cases e : (ks.any fun kv => decide (kv.1 = k)) = true
  · rw [if_pos e, if_pos e]; exact setW_ok rv h q
  · rw [if_neg e, if_neg e]
    refine ⟨by simp [h], ?_⟩
    rw [List.map_append, List.map_append]
    exact q.app (.cons rv .nil)
theorem dropW_ok {k : κ} : ∀ {kvs : List (κ × W)} {ks : List (κ × V)}, kvs.map (·.1) = ks.map (·.1) → RVs G ρ H (kvs.map (·.2)) (ks.map (·.2)) → (dropW k kvs).map (·.1) = (dropK ks k).map (·.1) ∧ RVs G ρ H ((dropW k kvs).map (·.2)) ((dropK ks k).map (·.2))
  | [], [], _, _ => ⟨rfl, .nil⟩
  | [], _ :: _, h, _ => by simp at h
  | _ :: _, [], h, _ => by simp at h
  | (j, u) :: r, (j', v') :: r', h, q => by
    simp only [List.map_cons, List.cons.injEq] at h
    obtain ⟨rfl, h⟩ := h
    cases q with
    | cons q1 q2 =>
      obtain ⟨h1, h2⟩ := dropW_ok (k := k) h q2
      unfold dropK at h1 h2 ⊢
      simp only [dropW]
      by_cases e : j = k
      · rw [if_pos e, List.filter_cons_of_neg (by simp [e])]; exact ⟨h1, h2⟩
      · rw [if_neg e, List.filter_cons_of_pos (by simp [e])]
        exact ⟨by rw [List.map_cons, List.map_cons, h1], .cons q1 h2⟩
end
end
/-! ### o[i] -/
def gDic (p : Hh) (o i : W) (s : S) : Option (Option W) := match o with
  | .ref n => (match rd p s n with
    | some (.dct kvs) => (match keyW i with | some k => some (valW k kvs) | none => none)
    | some (.dtt kvs) => (match keysW i with | some k => some (valW k kvs) | none => none)
    | _ => none)
  | _ => none
def gIx (p : Hh) (o i : W) (s : S) : O2 := match o with
  | .str z => (match i with
    | .int j => if z.length ≤ 1000000 then (match atI z.cps.toList j with | some c => some (.str ⟨#[c]⟩, s) | none => none) else none
    | _ => none)
  | o => (match seqItems p s o with
    | some ws => (match i with
      | .int j => (match atI ws j with | some w => some (w, s) | none => none)
      | _ => none)
    | none => (match gDic p o i s with
      | some (some w) => some (w, s)
      | _ => none))
def eIx (p : Hh) (mo mi : Lo → S → R W) : Lo → S → R W := fun l s => (mo l s).bind fun o s1 => (mi l s1).bind fun i s2 => R.ofO (gIx p o i s2)
section
variable {G : GE} {X : Cx} {ρ : List Addr} {H : Hp} {p : Hh} {s : S} {E : WX} {a b o i : Expr} {ma mb mo mi : Lo → S → R W} {pos : Pos}
theorem atI_rvs {ws : List W} {vs : List V} {j : Int} {w : W} (r : RVs G ρ H ws vs) (h : atI ws j = some w) : ∃ v, atI vs j = some v ∧ RV G ρ H w v := by
  unfold atI at h ⊢
  rw [r.len] at h
  cases e : ixN vs.length j with
  | none => rw [e] at h; cases h
  | some k =>
    rw [e] at h
    exact r.get h
theorem key_ok {w : W} {v : V} {k : Key} (r : RV G ρ H w v) (h : keyW w = some k) : v = kV k := by
  cases r <;> first | (cases h; rfl) | cases h
theorem keyW_all : ∀ {ws : List W} {vs : List V} {ks : List Key}, RVs G ρ H ws vs → mapO keyW ws = some ks → vs = ks.map kV
  | [], _, ks, r, h => by simp only [mapO] at h; cases h; cases r; rfl
  | w :: ws, _, ks, r, h => by
    simp only [mapO] at h
    cases r with
    | cons r1 r2 =>
      cases q : keyW w with
      | none => rw [q] at h; cases h
      | some k =>
        rw [q] at h
        dsimp only at h
        cases q2 : mapO keyW ws with
        | none => rw [q2] at h; cases h
        | some ks' =>
          rw [q2] at h
          cases h
          rw [key_ok r1 q, keyW_all r2 q2]
          rfl
theorem keys_ok {w : W} {v : V} {k : List Key} (r : RV G ρ H w v) (h : keysW w = some k) : ∃ b, v = .ref b ∧ H b = some (.tup (k.map kV)) := by
  cases r with
  | @tup a ws vs na ha r =>
    simp only [keysW] at h
    rw [keyW_all r h] at ha
    exact ⟨a, rfl, ha⟩
  | _ => cases h
theorem dic_at {o i : W} {ov iv : V} {r : Option W} (rp : Rep G ρ p s H) (ro : RV G ρ H o ov) (ri : RV G ρ H i iv) (h : gDic p o i s = some r) : ∃ a r', ov = .ref a ∧ DGet H a iv r' ∧ (r = none → r' = none) ∧ ∀ w, r = some w → ∃ v, r' = some v ∧ RV G ρ H w v := by
  cases ro with
  | @ref n a e =>
    simp only [gDic] at h
    cases z : rd p s n with
    | none => rw [z] at h; cases h
    | some ob =>
      rw [z] at h
      obtain ⟨u, hu, q⟩ := rp.at z e
      cases q with
      | @dK kvs ks q1 q2 =>
        dsimp only at h
        cases z2 : keyW i with
        | none => rw [z2] at h; cases h
        | some k =>
          rw [z2] at h
          cases h
          obtain ⟨h1, h2⟩ := valW_ok (k := k) q1 q2
          rw [key_ok ri z2]
          exact ⟨a, _, rfl, DGet.k hu, h1, h2⟩
      | @dT kvs ks q1 q2 =>
        dsimp only at h
        cases z2 : keysW i with
        | none => rw [z2] at h; cases h
        | some k =>
          rw [z2] at h
          cases h
          obtain ⟨h1, h2⟩ := valW_ok (k := k) q1 q2
          obtain ⟨b, rfl, hb⟩ := keys_ok ri z2
          exact ⟨a, _, rfl, DGet.t hu hb, h1, h2⟩
      | _ => cases h
  | _ => cases h
theorem PE_or {e : Expr} {t t' : TE} (h : PE X e t) (h' : PE X e t') : PE X e (fun σ H Q => t σ H Q ∨ t' σ H Q) := ⟨fun pins s σ H Q I w => w.elim (h.run pins s σ H Q I) (h'.run pins s σ H Q I)⟩
theorem se_ix (hu : X.A.units + 1 < cLine) (ho : SE G p E X a mo) (hi : SE G p E X b mi) (hs : ∀ o i, subscripted b false o i = operate [o, i] (getItem o i) := by intro _ _; rfl) : SE G p E X (.Subscript a b pos) (eIx p mo mi) := by
  refine ⟨fun pins s' σ H Q I ⟨ρ, l, s, rl, rp, h⟩ => ?_⟩
  unfold eIx at h
  refine (PE_or (pe_ix (pos := pos) ix_seq ho hi hs) (pe_dget (pos := pos) hu ho hi hs)).run pins s' σ H Q I ?_
  cases eo : mo l s with
  | bad => rw [eo] at h; exact h.elim
  | exc c w s1 =>
    refine .inl ⟨ρ, l, s, rl, rp, ?_⟩
    rw [eo] at h ⊢
    exact h
  | ok o1 s1 =>
    rw [eo] at h
    simp only [CC.R.bind] at h
    cases ei : mi l s1 with
    | bad => rw [ei] at h; exact h.elim
    | exc c w s2 =>
      refine .inl ⟨ρ, l, s, rl, rp, ?_⟩
      rw [eo]
      refine fun ρ1 H1 v x1 rp1 rv1 => ⟨ρ1, l, s1, rl.mono x1, rp1, ?_⟩
      rw [ei] at h ⊢
      exact PoA.base h x1
    | ok i1 s2 =>
      rw [ei] at h
      dsimp only at h
      have hd : (∃ w, gDic p o1 i1 s2 = some (some w) ∧ gIx p o1 i1 s2 = some (w, s2)) ∨ (∃ z j c, o1 = .str z ∧ i1 = .int j ∧ z.length ≤ 1000000 ∧ atI z.cps.toList j = some c ∧ gIx p o1 i1 s2 = some (.str ⟨#[c]⟩, s2)) ∨ (∃ ws j w, seqItems p s2 o1 = some ws ∧ i1 = .int j ∧ atI ws j = some w ∧ gIx p o1 i1 s2 = some (w, s2)) := by
        cases eg : gIx p o1 i1 s2 with
        | none => rw [eg] at h; exact h.elim
        | some r =>
          unfold gIx at eg
          split at eg
          · split at eg
            · split at eg
              · split at eg
                · rename_i hl _ c ec
                  cases eg
                  exact .inr (.inl ⟨_, _, _, rfl, rfl, hl, ec, rfl⟩)
                · cases eg
              · cases eg
            · cases eg
          · split at eg
            · rename_i ws ew
              split at eg
              · split at eg
                · rename_i w ea
                  cases eg
                  exact .inr (.inr ⟨_, _, _, ew, rfl, ea, rfl⟩)
                · cases eg
              · cases eg
            · split at eg
              · rename_i w ed
                cases eg
                exact .inl ⟨w, ed, rfl⟩
              · cases eg
      rcases hd with ⟨w, ed, eg⟩ | hd
      · refine .inr ⟨ρ, l, s, rl, rp, ?_⟩
        rw [eo]
        refine fun ρ1 H1 v x1 rp1 rv1 => ⟨ρ1, l, s1, rl.mono x1, rp1, ?_⟩
        rw [ei]
        refine fun ρ2 H2 v2 x2 rp2 rv2 => ?_
        obtain ⟨a', r', rfl, g, _, g2⟩ := dic_at rp2 (rv1.mono x2) rv2 ed
        obtain ⟨v3, rfl, rv3⟩ := g2 w rfl
        rw [eg] at h
        exact ⟨a', v3, rfl, g, h ρ2 H2 _ (x1.trans x2) rp2 rv3⟩
      · refine .inl ⟨ρ, l, s, rl, rp, ?_⟩
        rw [eo]
        refine fun ρ1 H1 v x1 rp1 rv1 => ⟨ρ1, l, s1, rl.mono x1, rp1, ?_⟩
        rw [ei]
        refine fun ρ2 H2 v2 x2 rp2 rv2 => ?_
        have rv1 := rv1.mono x2
        rcases hd with ⟨z, j, c, rfl, rfl, hl, ec, eg⟩ | ⟨ws, j, w, ew, rfl, ea, eg⟩
        · cases rv1; cases rv2
          rw [eg] at h
          exact .inr (.inr ⟨z, j, c, rfl, rfl, million hl, ec, h ρ2 H2 _ (x1.trans x2) rp2 (.str _)⟩)
        · obtain ⟨a', vs, rfl, r2, r3⟩ := seq_at (K := X.K) rp2 rv1 ew
          cases rv2
          obtain ⟨v3, e3, rv3⟩ := atI_rvs r2 ea
          rw [eg] at h
          have q := h ρ2 H2 _ (x1.trans x2) rp2 rv3
          rcases r3 with r3 | ⟨r3, _⟩
          · exact .inl ⟨a', vs, j, v3, rfl, rfl, r3, e3, q⟩
          · exact .inr (.inl ⟨a', vs, j, v3, rfl, rfl, r3, e3, q⟩)
end
end CC
set_option Elab.async false
set_option linter.all false
set_option maxRecDepth 100000
/-! CCSub2: slices, stores, methods -/
namespace CC
open PySem PySem.Spec PyProof.Rows L2

/-! ### slices -/
def cutW (xs : List W) (lo hi : Option Int) : List W := (xs.drop (HT.sIx xs.length 0 lo)).take (HT.sIx xs.length xs.length hi - HT.sIx xs.length 0 lo)
abbrev MO := Lo → S → R (Option Int)
def oNo : MO := fun _ s => .ok none s
def oSo (ma : Lo → S → R W) : MO := fun l s => (ma l s).bind fun w s1 => match w with
  | .int i => .ok (some i) s1
  | _ => .bad
def gSl (p : Hh) (o : W) (lo hi : Option Int) (s : S) : O2 := match o with
  | .tup ws => some (.tup (cutW ws lo hi), s)
  | .ref n => (match cellItems p s n with
    | some ws => some (.ref (nxt p s), al s (.lst (cutW ws lo hi)))
    | none => none)
  | _ => none
def eSl (p : Hh) (mo : Lo → S → R W) (ml mh : MO) : Lo → S → R W := fun l s => (mo l s).bind fun o s1 => (ml l s1).bind fun lo s2 => (mh l s2).bind fun hi s3 => R.ofO (gSl p o lo hi s3)
/-- xs[::-1] -/
def eRev (p : Hh) (mo : Lo → S → R W) : Lo → S → R W := fun l s => (mo l s).bind fun o s1 => match cellL p s1 o with
  | some ws => .ok (.ref (nxt p s1)) (al s1 (.lst ws.reverse))
  | none => .bad
/-! ### stores -/
def gSetX (p : Hh) (o i w : W) (s : S) : Option S := match o with
  | .ref n => (match rd p s n with
    | some (.lst ws) => (match i with
      | .int j => (match ixN ws.length j with | some k => some (wr p s n (.lst (ws.set k w))) | none => none)
      | _ => none)
    | some (.dct kvs) => (match keyW i with | some k => if kvs.length < 1000000 then some (wr p s n (.dct (putKW kvs k w))) else none | none => none)
    | some (.dtt kvs) => (match keysW i with | some k => if kvs.length < 1000000 then some (wr p s n (.dtt (putKW kvs k w))) else none | none => none)
    | _ => none)
  | _ => none
/-! ### methods -/
def eBm (c : Hh → S → W → Bool) (f : Hh → W → List W → S → O2) (p : Hh) (mo : Lo → S → R W) (mr : Lo → S → R (List W)) : Lo → S → R W := fun l s => (mo l s).bind fun o s1 => if c p s1 o then (mr l s1).bind fun xs s2 => R.ofO (f p o xs s2) else .bad
def isLst (p : Hh) (s : S) (w : W) : Bool := match cellL p s w with
  | some _ => true
  | none => false
def fAppend (p : Hh) (o : W) (xs : List W) (s : S) : O2 := match o, xs with
  | .ref n, [w] => (match rd p s n with
    | some (.lst ws) => if ws.length < 1000000 then some (.non, wr p s n (.lst (ws ++ [w]))) else none
    | _ => none)
  | _, _ => none
def fExtend (p : Hh) (o : W) (xs : List W) (s : S) : O2 := match o, xs with
  | .ref n, [.ref m] => (match rd p s n, rd p s m with
    | some (.lst ws), some (.lst us) => if ws.length + us.length ≤ 1000000 then some (.non, wr p s n (.lst (ws ++ us))) else none
    | _, _ => none)
  | _, _ => none
def fPop (p : Hh) (o : W) (xs : List W) (s : S) : O2 := match o, xs with
  | .ref n, [] => (match rd p s n with
    | some (.lst ws) => (match ws[ws.length - 1]? with | some w => some (w, wr p s n (.lst ws.dropLast)) | none => none)
    | _ => none)
  | _, _ => none
def fPopAt (p : Hh) (o : W) (xs : List W) (s : S) : O2 := match o, xs with
  | .ref n, [.int i] => (match rd p s n with
    | some (.lst ws) => (match ixN ws.length i with | some k => if b62 i then (match ws[k]? with | some w => some (w, wr p s n (.lst (ws.eraseIdx k))) | none => none) else none | none => none)
    | _ => none)
  | _, _ => none
def fClear (p : Hh) (o : W) (xs : List W) (s : S) : O2 := match o, xs with
  | .ref n, [] => (match rd p s n with
    | some (.lst _) => some (.non, wr p s n (.lst []))
    | _ => none)
  | _, _ => none
def fReverse (p : Hh) (o : W) (xs : List W) (s : S) : O2 := match o, xs with
  | .ref n, [] => (match rd p s n with
    | some (.lst ws) => some (.non, wr p s n (.lst ws.reverse))
    | _ => none)
  | _, _ => none
/-- += of names -/
def gIAdd (p : Hh) (x y : W) (s : S) : O2 := match x, y with
  | .ref n, .ref m => (match rd p s n, rd p s m with
    | some (.lst ws), some (.lst us) => if ws.length + us.length ≤ 1000000 then some (.ref n, wr p s n (.lst (ws ++ us))) else none
    | _, _ => none)
  | .int i, .int j => some (.int (i + j), s)
  | _, _ => none
section
variable {G : GE} {X : Cx} {ρ : List Addr} {H : Hp} {p : Hh} {s : S} {E : WX} {a b o i e : Expr} {es : List Expr} {ma mb mo mi : Lo → S → R W} {mr : Lo → S → R (List W)} {pos apos cpos : Pos} {ml mh : MO} {lo hi : Option Expr}
def SO (G : GE) (p : Hh) (E : WX) (X : Cx) (e : Option Expr) (m : MO) : Prop := PO X e (fun σ H Q => ∃ ρ l s, RL G ρ H l σ ∧ Rep G ρ p s H ∧ PoA G p ρ H (fun _ _ a b => a = b) (m l s) Q (fun c d H' => E c d σ H'))
theorem PO_imp {e : Option Expr} {t t' : TO} (h : PO X e t) (i : ∀ σ H Q, t' σ H Q → t σ H Q) : PO X e t' := ⟨fun pins s σ H Q I w => h.run pins s σ H Q I (i σ H Q w)⟩
theorem so_no : SO G p E X none oNo := PO_imp po_none fun σ H Q ⟨ρ, l, s, rl, rp, h⟩ => h ρ H none Ex.rfl' rp rfl
theorem so_so (ha : SE G p E X a ma) : SO G p E X (some a) (oSo ma) := PO_imp (po_some ha) fun σ H Q ⟨ρ, l, s, rl, rp, h⟩ => by
  unfold oSo at h
  refine ⟨ρ, l, s, rl, rp, PoA.bind h fun w s1 ρ1 H1 v x1 rp1 rv1 h1 => ?_⟩
  cases rv1 with
  | int i => exact ⟨i, rfl, h1 ρ1 H1 _ Ex.rfl' rp1 rfl⟩
  | _ => exact h1.elim
theorem cutW_ok {ws : List W} {vs : List V} (r : RVs G ρ H ws vs) (lo hi : Option Int) : RVs G ρ H (cutW ws lo hi) (cutV vs lo hi) := by
  unfold cutW cutV
  rw [r.len]
  exact (r.drop _).take _
theorem se_sl {p2 : Pos} (ho : SE G p E X a mo) (hl : SO G p E X lo ml) (hh : SO G p E X hi mh) : SE G p E X (.Subscript a (.Slice lo hi none p2) pos) (eSl p mo ml mh) :=
  PE_imp (pe_slice (sl_list.or sl_tupA) ho hl hh) fun σ H Q ⟨ρ, l, s, rl, rp, h⟩ => by
    unfold eSl at h
    refine ⟨ρ, l, s, rl, rp, PoA.bind h fun w s1 ρ1 H1 v x1 rp1 rv1 h1 => ⟨ρ1, l, s1, rl.mono x1, rp1, PoA.bind h1 fun lo' s2 ρ2 H2 v2 x2 rp2 rv2 h2 => ⟨ρ2, l, s2, (rl.mono x1).mono x2, rp2, PoA.bind h2 fun hi' s3 ρ3 H3 v3 x3 rp3 rv3 h3 => ?_⟩⟩⟩
    subst rv2 rv3
    have h3 := po_of h3
    have rv1 := (rv1.mono x2).mono x3
    unfold gSl at h3
    cases rv1 with
    | @tup a' ws vs na ha r =>
      refine .inr ⟨a', vs, rfl, SqT.of ha, fun hw => ?_, fun hw q hq => po_tup rp3 (cutW_ok r lo' hi') h3 hq⟩
      have e : cutV vs lo' hi' = vs := by
        unfold cutV
        rw [hw.1, hw.2]
        simp
      have r2 := cutW_ok r lo' hi'
      rw [e] at r2
      exact po_v h3 rp3 (.tup na ha r2)
    | @ref n a' en =>
      dsimp only at h3
      cases z : cellItems p s3 n with
      | none => rw [z] at h3; exact h3.elim
      | some ws =>
        rw [z] at h3
        obtain ⟨vs, hs, r⟩ := cell_seq (K := X.K) rp3 z en
        exact .inl ⟨a', vs, rfl, hs, fun q hq => po_lst rp3 (cutW_ok r lo' hi') h3 hq⟩
    | _ => exact h3.elim
theorem se_rev {k : Nat} {p1 p2 p3 : Pos} (ho : SE G p E X a mo) : SE G p E X (.Subscript a (.Slice none none (some (.UnaryOp .USub (.Constant (.int 1) k p1) p2)) p3) pos) (eRev p mo) :=
  PE_imp (pe_revL ho) fun σ H Q ⟨ρ, l, s, rl, rp, h⟩ => by
    unfold eRev at h
    refine ⟨ρ, l, s, rl, rp, PoA.bind h fun w s1 ρ1 H1 v x1 rp1 rv1 h1 => ?_⟩
    cases z : cellL p s1 w with
    | none => rw [z] at h1; exact h1.elim
    | some ws =>
      rw [z] at h1
      obtain ⟨a', vs, rfl, r, hs⟩ := cellL_at (K := X.K) rp1 rv1 z
      exact ⟨a', vs, rfl, hs, fun q hq => po_lst (s := s1) rp1 r.rev h1 hq⟩
/-- a cell of a list, to be written -/
theorem po_wr {n : Nat} {a : Addr} {ob : Ob} {u : HO} {w : W} {v : V} {Q : VK} (rp : Rep G ρ p s H) (e : ρ[n]? = some a) (h : PoO G p ρ H (some (w, wr p s n ob)) Q) (hu : Ex ρ H ρ (upd H a u) → RO G ρ (upd H a u) ob u) (hv : Ex ρ H ρ (upd H a u) → RV G ρ (upd H a u) w v) : Q v (upd H a u) := by
  have x : Ex ρ H ρ (upd H a u) := ⟨⟨[], by simp⟩, fun _ h n => absurd h n, fun b o n h => by
    have nb : b ≠ a := fun z => n (by rw [z]; exact List.mem_of_getElem? e)
    rw [upd_ne nb]; exact h⟩
  obtain ⟨_, r2⟩ := rp.wr_ e (hu x)
  exact h ρ _ _ x r2 (hv x)
theorem s_setx (hu : X.A.units + 1 < cLine) : SetI G X gSetX := by
  intro p pins sh σ H ov iv v ov' iv' u Q I ro ri rv ⟨ρ, s, wo, wi, w, rp, r1, r2, r3, h⟩
  unfold gSetX at h
  cases r1 with
  | @ref n a e =>
    dsimp only at h
    cases z : rd p s n with
    | none => rw [z] at h; exact h.elim
    | some ob =>
      rw [z] at h
      obtain ⟨hu', hh, q⟩ := rp.at z e
      have x : ∀ u, Ex ρ H ρ (upd H a u) := fun u => ⟨⟨[], by simp⟩, fun _ h n => absurd h n, fun b o n h => by
        have nb : b ≠ a := fun z => n (by rw [z]; exact List.mem_of_getElem? e)
        rw [upd_ne nb]; exact h⟩
      cases q with
      | @lst ws vs r =>
        dsimp only at h
        cases r2 with
        | int j =>
          dsimp only at h
          cases ej : ixN ws.length j with
          | none => rw [ej] at h; exact h.elim
          | some k =>
            rw [ej] at h
            obtain ⟨x2, rp2⟩ := rp.wr_ (u := .lst (vs.set k v)) e (.lst ((r.mono (x _)).set k (r3.mono (x _))))
            exact set_list pins sh σ H _ _ v ov' iv' u Q I ro ri rv ⟨a, vs, j, k, rfl, rfl, hh, by rw [← r.len]; exact ej, h _ x2 rp2⟩
        | _ => exact h.elim
      | @dK kvs ks q1 q2 =>
        dsimp only at h
        cases ek : keyW wi with
        | none => rw [ek] at h; exact h.elim
        | some k =>
          rw [ek] at h
          dsimp only at h
          by_cases hl : kvs.length < 1000000
          · rw [if_pos hl] at h
            obtain ⟨y1, y2⟩ := putKW_ok (k := k) (r3.mono (x (.dK (putK ks k v)))) q1 (q2.mono (x _))
            obtain ⟨x2, rp2⟩ := rp.wr_ (u := .dK (putK ks k v)) e (.dK y1 y2)
            have hl2 : ks.length < sizeLine := by
              have e2 : kvs.length = ks.length := by simpa using congrArg List.length q1
              rw [← e2, sizeLine_eq]; omega
            have ekv := key_ok r2 ek
            subst ekv
            exact set_dict hu pins sh σ H _ _ v ov' iv' u Q I ro ri rv ⟨a, _, rfl, DPut.k hh hl2, h _ x2 rp2⟩
          · rw [if_neg hl] at h; exact h.elim
      | @dT kvs ks q1 q2 =>
        dsimp only at h
        cases ek : keysW wi with
        | none => rw [ek] at h; exact h.elim
        | some k =>
          rw [ek] at h
          dsimp only at h
          by_cases hl : kvs.length < 1000000
          · rw [if_pos hl] at h
            obtain ⟨y1, y2⟩ := putKW_ok (k := k) (r3.mono (x (.dT (putK ks k v)))) q1 (q2.mono (x _))
            obtain ⟨x2, rp2⟩ := rp.wr_ (u := .dT (putK ks k v)) e (.dT y1 y2)
            have hl2 : ks.length < sizeLine := by
              have e2 : kvs.length = ks.length := by simpa using congrArg List.length q1
              rw [← e2, sizeLine_eq]; omega
            obtain ⟨b', rfl, hb⟩ := keys_ok r2 ek
            exact set_dict hu pins sh σ H _ _ v ov' iv' u Q I ro ri rv ⟨a, _, rfl, DPut.t hh hb hl2, h _ x2 rp2⟩
          · rw [if_neg hl] at h; exact h.elim
      | _ => exact h.elim
  | _ => exact h.elim
/-- a method of a built-in type, by values -/
def MtI (G : GE) (X : Cx) (id : String) (f : Hh → W → List W → S → O2) : Prop :=
  ∀ p, MtR X id (fun v vs H Q => ∃ ρ s w ws, Rep G ρ p s H ∧ RV G ρ H w v ∧ RVs G ρ H ws vs ∧ PoO G p ρ H (f p w ws s) Q)
theorem mtI_of {id : String} {r : V → List V → Hp → VK → Prop} {f : Hh → W → List W → S → O2} (hr : MtR X id r) (h : ∀ (p : Hh) (ρ : List Addr) (s : S) (H : Hp) (w : W) (ws : List W) (v : V) (vs : List V) (Q : VK), Rep G ρ p s H → RV G ρ H w v → RVs G ρ H ws vs → PoO G p ρ H (f p w ws s) Q → r v vs H Q) : MtI G X id f :=
  fun p pins s σ H v vs v' us Q I rv ru ⟨ρ, s0, w, ws, rp, r1, r2, q⟩ => hr pins s σ H v vs v' us Q I rv ru (h p ρ s0 H w ws v vs Q rp r1 r2 q)
/-- the test c says that the value is of the type T -/
def TyI (G : GE) (K : PySem.W.Frag) (T : String) (c : Hh → S → W → Bool) : Prop := ∀ (p : Hh) (ρ : List Addr) (s : S) (H : Hp) (w : W) (v : V), Rep G ρ p s H → RV G ρ H w v → c p s w = true → tyV K T v H
theorem ty_lst {K : PySem.W.Frag} : TyI G K "list" isLst := fun p ρ s H w v rp rv h => by
  unfold isLst at h
  cases z : cellL p s w with
  | none => rw [z] at h; cases h
  | some ws =>
    obtain ⟨a, vs, rfl, _, hs⟩ := cellL_at (K := K) rp rv z
    exact .inl ⟨rfl, vs, hs⟩
theorem se_bm {T id : String} {name : Str} {c : Hh → S → W → Bool} {f : Hh → W → List W → S → O2} (pa : PlainAttrs T) (slot : Slot T name id) (hty : typeOf (.builtin id) = pure (.type "method_descriptor")) (hc : TyI G X.K T c) (hm : MtI G X id f) (ho : SE G p E X o mo) (ha : SA G p E X (e :: es) mr)
    (hbase : attributeBase o name X.env (eval o X.env) = eval o X.env := by rfl)
    (hfew : ((backTo cpos (starEach (e :: es) X.env)).all (fun x => !x.1) && (backToKw cpos (keywordEach [] X.env)).all (fun x => x.1.isSome)
      && decide ((e :: es).length + ([] : List Keyword).length + (if ([] : List Keyword).isEmpty then 0 else 1) < 30)) = true := by rfl)
    (hline : (apos.endLine == cpos.line) = true := by rfl) (hs : starEach (e :: es) X.env = (false, eval e X.env) :: starEach es X.env := by rfl) (hplain : (backTo cpos (starEach es X.env)).any (·.1) = false := by rfl) :
    SE G p E X (.Call (.Attribute o name apos) (e :: es) [] cpos) (eBm c f p mo mr) :=
  PE_imp (pe_bm pa slot hty (hm p) ho ha hbase hfew hline hs hplain) fun σ H Q ⟨ρ, l, s, rl, rp, h⟩ => by
    unfold eBm at h
    refine ⟨ρ, l, s, rl, rp, PoA.bind h fun w s1 ρ1 H1 v x1 rp1 rv1 h1 => ?_⟩
    split at h1
    · rename_i hcc
      exact ⟨hc p ρ1 s1 H1 w v rp1 rv1 hcc, ρ1, l, s1, rl.mono x1, rp1, PoA.bind h1 fun xs s2 ρ2 H2 vs x2 rp2 rv2 h2 => ⟨ρ2, s2, w, xs, rp2, rv1.mono x2, rv2, po_of h2⟩⟩
    · exact h1.elim
theorem se_bm0 {T id : String} {name : Str} {c : Hh → S → W → Bool} {f : Hh → W → List W → S → O2} (pa : PlainAttrs T) (slot : Slot T name id) (hty : typeOf (.builtin id) = pure (.type "method_descriptor")) (hc : TyI G X.K T c) (hm : MtI G X id f) (ho : SE G p E X o mo)
    (hbase : attributeBase o name X.env (eval o X.env) = eval o X.env := by rfl) (hline : (apos.endLine == cpos.line) = true := by rfl) :
    SE G p E X (.Call (.Attribute o name apos) [] [] cpos) (eBm c f p mo aNil) :=
  PE_imp (pe_bm0 pa slot hty (hm p) ho hbase hline) fun σ H Q ⟨ρ, l, s, rl, rp, h⟩ => by
    unfold eBm at h
    refine ⟨ρ, l, s, rl, rp, PoA.bind h fun w s1 ρ1 H1 v x1 rp1 rv1 h1 => ?_⟩
    split at h1
    · rename_i hcc
      exact ⟨hc p ρ1 s1 H1 w v rp1 rv1 hcc, ρ1, s1, w, [], rp1, rv1, .nil, po_of h1⟩
    · exact h1.elim
theorem m_append : MtI G X "list.append" fAppend := mtI_of mt_append fun p ρ s H w ws v vs Q rp r1 r2 h => by
  unfold fAppend at h
  split at h
  · rename_i n w1
    cases r1 with | ref e =>
    cases r2 with | cons q1 q2 =>
    cases q2
    split at h
    · rename_i xs hx
      split at h
      · rename_i hl
        obtain ⟨vs, hv, r⟩ := lst_at rp hx e
        refine ⟨_, vs, _, rfl, rfl, hv, by rw [← r.len, sizeLine_eq]; omega, po_wr rp e h (fun x => .lst ((r.mono x).app (.cons (q1.mono x) .nil))) fun _ => .non⟩
      · exact h.elim
    · exact h.elim
  · exact h.elim
theorem m_extend : MtI G X "list.extend" fExtend := mtI_of mt_extend fun p ρ s H w ws v vs Q rp r1 r2 h => by
  unfold fExtend at h
  split at h
  · rename_i n m
    cases r1 with | ref e =>
    cases r2 with | cons q1 q2 =>
    cases q2
    cases q1 with | ref e' =>
    split at h
    · rename_i xs ys hx hy
      split at h
      · rename_i hl
        obtain ⟨vs, hv, r⟩ := lst_at rp hx e
        obtain ⟨us, hu, r'⟩ := lst_at rp hy e'
        exact ⟨_, _, vs, us, rfl, rfl, hv, hu, by rw [← r.len, ← r'.len]; exact million hl, po_wr rp e h (fun x => .lst ((r.mono x).app (r'.mono x))) fun _ => .non⟩
      · exact h.elim
    · exact h.elim
  · exact h.elim
theorem RVs.dropLast : ∀ {ws : List W} {vs : List V}, RVs G ρ H ws vs → RVs G ρ H ws.dropLast vs.dropLast
  | _, _, .nil => .nil
  | _, _, .cons h .nil => .nil
  | _, _, .cons h (.cons h' r) => .cons h (RVs.dropLast (.cons h' r))
theorem RVs.eraseIdx : ∀ {ws : List W} {vs : List V} (k : Nat), RVs G ρ H ws vs → RVs G ρ H (ws.eraseIdx k) (vs.eraseIdx k)
  | _, _, _, .nil => .nil
  | _, _, 0, .cons h r => r
  | _, _, k + 1, .cons h r => .cons h (RVs.eraseIdx k r)
theorem m_pop : MtI G X "list.pop" fPop := mtI_of mt_pop fun p ρ s H w ws v vs Q rp r1 r2 h => by
  unfold fPop at h
  split at h
  · rename_i n
    cases r1 with | ref e =>
    cases r2
    split at h
    · rename_i xs hx
      split at h
      · rename_i w hw
        obtain ⟨vs, hv, r⟩ := lst_at rp hx e
        obtain ⟨v, hv2, rv⟩ := r.get hw
        exact ⟨_, vs, v, rfl, rfl, hv, by rw [← r.len]; exact hv2, po_wr rp e h (fun x => .lst (r.mono x).dropLast) fun x => rv.mono x⟩
      · exact h.elim
    · exact h.elim
  · exact h.elim
theorem m_popAt : MtI G X "list.pop" fPopAt := mtI_of mt_popAt fun p ρ s H w ws v vs Q rp r1 r2 h => by
  unfold fPopAt at h
  split at h
  · rename_i n i
    cases r1 with | ref e =>
    cases r2 with | cons q1 q2 =>
    cases q2
    cases q1
    split at h
    · rename_i xs hx
      split at h
      · rename_i k hk
        split at h
        · rename_i hb
          split at h
          · rename_i w hw
            obtain ⟨vs, hv, r⟩ := lst_at rp hx e
            obtain ⟨v, hv2, rv⟩ := r.get hw
            obtain ⟨b1, b2⟩ := b62_ok hb
            exact ⟨_, vs, i, k, v, rfl, rfl, hv, by omega, by omega, by rw [← r.len]; exact (ixN_seq hk).1, hv2, po_wr rp e h (fun x => .lst ((r.mono x).eraseIdx k)) fun x => rv.mono x⟩
          · exact h.elim
        · exact h.elim
      · exact h.elim
    · exact h.elim
  · exact h.elim
theorem m_clear : MtI G X "list.clear" fClear := mtI_of mt_clear fun p ρ s H w ws v vs Q rp r1 r2 h => by
  unfold fClear at h
  split at h
  · rename_i n
    cases r1 with | ref e =>
    cases r2
    split at h
    · rename_i xs hx
      obtain ⟨vs, hv, r⟩ := lst_at rp hx e
      exact ⟨_, vs, rfl, rfl, hv, po_wr rp e h (fun x => .lst .nil) fun x => .non⟩
    · exact h.elim
  · exact h.elim
theorem m_reverse : MtI G X "list.reverse" fReverse := mtI_of mt_reverse fun p ρ s H w ws v vs Q rp r1 r2 h => by
  unfold fReverse at h
  split at h
  · rename_i n
    cases r1 with | ref e =>
    cases r2
    split at h
    · rename_i xs hx
      obtain ⟨vs, hv, r⟩ := lst_at rp hx e
      exact ⟨_, vs, rfl, rfl, hv, po_wr rp e h (fun x => .lst (r.mono x).rev) fun x => .non⟩
    · exact h.elim
  · exact h.elim
end
end CC
set_option Elab.async false
set_option linter.all false
set_option maxRecDepth 100000
/-! CCEnum: enumerate (of a list, of a tuple), zip, texts -/
namespace CC
open PySem PySem.Spec PyProof.Rows L2

set_option maxHeartbeats 1000000 in
theorem enum_made {v : Value} {o : Obj} {H : Heap → Prop} (B : Begins v o H) :
    Meets (Builtin.«enumerate.__new__» ⟨[.type "enumerate", v], []⟩) (fun _ R s => H s.heap ∧ R (.ok (.ret (.ref (s.heap.push o).objs.size))) { s with heap := (s.heap.push o).push { cls := .type "enumerate", data := .fields #[.none, .bool false, .ref s.heap.objs.size, rawInt 0, .none, .none] } }) := .of_wp fun prog w A R s h => by
  obtain ⟨hp, g, d, tk, os⟩ := s
  obtain ⟨h1, h⟩ := h
  have hsub := sub_enumerate
  have qq : ∀ {A' : Around} {E Q : Value → Shared → Prop}, Q (.ref hp.objs.size) ⟨hp.push o, g, d, tk, os⟩ → wpAny (model prog w) A' (pyIter v) Q E ⟨hp, g, d, tk, os⟩ := fun z => B.iter prog w _ _ ⟨hp, g, d, tk, os⟩ _ h1 z
  wp_walk using qq
  refine wpAny_stack_any fun st => wpAny_pure ?_
  split
  · rename_i c _ _ _ _ _
    cases (c == Value.type "enumerate") <;> (wp_walk using qq; exact ⟨_, rfl, h⟩)
  · wp_walk using qq
    exact ⟨_, rfl, h⟩
theorem enum_call {prog : Program} {w : World} {A : Around} {E : Value → Shared → Prop} {s : Shared} {v : Value} {o : Obj} {H : Heap → Prop} {Q : Value → Shared → Prop} (B : Begins v o H) (h1 : H s.heap)
    (h : ∀ h', IsEnum h' (s.heap.objs.size + 1) s.heap.objs.size 0 .none → h'.get? s.heap.objs.size = some o → (∀ b u, s.heap.get? b = some u → h'.get? b = some u) → Q (.ref (s.heap.objs.size + 1)) { s with heap := h' }) : wpAny (model prog w) A (call (.type "enumerate") [v]) Q E s := by
  refine callType_new F.called_enumerate (by decide) (F.typeCall_enumerate_1 _) (F.newCall_enumerate_1 _) (fun obj => F.args_object_init_2 obj _) F.entry_enumerate_new (enum_made B) ⟨h1, ?_⟩
  have hz : (s.heap.push o).objs.size = s.heap.objs.size + 1 := Heap.size_push ..
  show _ ∧ _
  rw [hz]
  have g := Heap.get?_push_size (s.heap.push o) (o := { cls := .type "enumerate", data := .fields #[.none, .bool false, .ref s.heap.objs.size, rawInt 0, .none, .none] }) rfl
  rw [hz] at g
  exact ⟨⟨_, g, rfl⟩, h _ g (Heap.get?_push_of_some _ (Heap.get?_push_size _ B.free)) fun b u x => Heap.get?_push_of_some _ (Heap.get?_push_of_some _ x)⟩
theorem enumT_end {prog : Program} {w : World} {A : Around} {E : Value → Shared → Prop} {s : Shared} {e it t : Addr} {i : Nat} {items : Array Value} {old : Value} {Q : Option Value → Shared → Prop} (hh : A.handled = none) (he : IsEnum s.heap e it i old) (hit : s.heap.IsTupleIter it t i) (ht : s.heap.IsTuple t items) (hx : items[i]? = none)
    (hQ : ∀ h', Heap.ExtBut it s.heap h' → Q none { s with heap := h' }) : wpAny (model prog w) A (pyNext (.ref e)) Q E s := by
  have hT : s.TypeIs (.ref e) "enumerate" := ⟨_, he, rfl⟩
  unfold pyNext
  refine wpAny_bind (wpAny_attempt (wpAny_callSpecial?_slot (name := Str.ofString "__next__") hT F.slot_enumerate_next (wpAny_call_entry F.slot_enumerate_next hT F.entry_enumerate_next ?_ (F.args_enumerate_next_1 _))))
  show wpAny _ _ (field (.ref e) 2 >>= _) _ _ _
  refine wpAny_bind (wpAny_field he rfl (x := .ref it) rfl (wpAny_bind (wpAny_nextOf_tuple_end hh hit ht hx fun h' x g1 g2 => ?_)))
  obtain ⟨o, ho, hc⟩ := g2
  exact wpAny_bind (wpAny_isInstance (T := "StopIteration") (b := true) ⟨o, ho, hc⟩ isSubtype_stop (wpAny_pure (hQ _ g1)))
/-- the tuple at a, each item in a new pair with its place -/
def ItU (a : Addr) : It :=
  ⟨fun i H => ∃ (xs : List V) (x : V), H a = some (.tup xs) ∧ xs[i]? = some x, fun i H v H' => ∃ T x, v = .ref T ∧ H T = none ∧ H' = upd H T (.tup [.int (i : Nat), x]) ∧ ∀ xs, H a = some (.tup xs) → xs[i]? = some x, fun i H => ∃ xs : List V, H a = some (.tup xs) ∧ xs.length ≤ i⟩
theorem turn_enumT {P : Program} {w : World} {K : PySem.W.Frag} {elts : List Expr} {kk : Nat} {tpos : Pos} (a e it : Addr) : Turn P w K (.Tuple elts kk tpos) (ItU a) [e, it] e (fun i h => (∃ old, IsEnum h e it ((i : Nat) : Int) old) ∧ h.IsTupleIter it a i ∧ e ≠ it) where
  mem := by simp
  obj := fun i h st b hb => by
    obtain ⟨⟨old, he⟩, ⟨o, ho, hc, hd⟩, _⟩ := st
    rcases (show b = e ∨ b = it by simpa using hb) with z | z
    · subst z; exact ⟨_, he, fun v q => nomatch q⟩
    · subst z; exact ⟨o, ho, fun v q => by rw [hd] at q; cases q⟩
  keep := fun i h h' st k => let ⟨⟨old, he⟩, hi, hne⟩ := st; ⟨⟨old, k e (by simp) _ he⟩, hi.at fun o q => k it (by simp) o q, hne⟩
  item := by
    intro X hP hw hK hc i pins s σ H E I hf st hg
    subst hP hw hK
    obtain ⟨⟨old, he⟩, hit, hne⟩ := st
    obtain ⟨xs, x, hq, hx⟩ := hg
    have nai : a ≠ it := ne_of_none hq (hf it (by simp)).1
    have nae : e ∉ [it, a] := by
      have : a ≠ e := ne_of_none hq (hf e (by simp)).1
      simp [hne, Ne.symm this]
    obtain ⟨its, rv, p, hz⟩ := I.tuple (xs := xs) (SqT.of hq)
    obtain ⟨u, hu, ru⟩ := rv.get hx
    have hi : i < its.toArray.size := by
      have := (List.getElem?_eq_some_iff.mp hu).1
      simpa using this
    have hel : e < s.heap.objs.size := Heap.lt_size he
    have hil : it < s.heap.objs.size := by obtain ⟨_, q, _⟩ := hit; exact Heap.lt_size q
    refine wpAny_pyNext_enum_itemD (Draws.tuple (A := X.A.in1) (I.ok.hd hc) it a nai its.toArray) he ⟨hit, p⟩ hi hne nae fun y h' tk hy ho hit' hT hsz hk => ?_
    have ey : y = u := by
      have e1 : its[i]? = some y := by simpa using hy
      rw [hu] at e1
      exact (Option.some.inj e1).symm
    subst ey
    refine ⟨_, rfl, wpAny_letOwnedTupleGo_enum (s := { s with heap := h', toks := tk + 1 }) ho fun h'' he' sb => ?_⟩
    have hT2 : h''.get? s.heap.objs.size = some { cls := .type "tuple", data := .seq #[.int i tk, y] } := (sb.2 _ (Nat.ne_of_gt hel)).trans hT
    have new : ObjOk X.prog X.w (upd H s.heap.objs.size (.tup [.int (i : Nat), x])) h'' s.heap.objs.size (.tup [.int (i : Nat), x]) := ⟨by show 2 ≤ sizeLine; decide, [.int i tk, y], .cons ⟨_, rfl⟩ (.cons ru .nil), ⟨_, hT2, rfl, _, rfl⟩⟩
    have I1 : Inv X pins σ (upd H s.heap.objs.size (.tup [.int (i : Nat), x])) { s with heap := h'', toks := tk + 1 } :=
      I.turnedNew (ch := [e, it]) (fun b ob hb q => (sb.2 b (fun z => hb (by simp [z]))).trans (hk b ob (fun z => hb (by simp [z])) (fun z => hb (by simp [z])) q)) hf (Nat.le_refl _) new
    refine ⟨.ref s.heap.objs.size, _, I1, rfl, ⟨_, x, rfl, I.hok.fresh (Nat.le_refl _), rfl, fun ys hy => by rw [hq] at hy; cases hy; exact hx⟩, ⟨⟨y, ?_⟩, hit'.1.at fun o q => (sb.2 it (Ne.symm hne)).trans q, hne⟩, fun b hb => ?_⟩
    · have e1 : ((i + 1 : Nat) : Int) = (i : Int) + 1 := by omega
      rw [e1]; exact he'
    · have hb' : b < s.heap.objs.size := by
        rcases (show b = e ∨ b = it by simpa using hb) with z | z
        · rw [z]; exact hel
        · rw [z]; exact hil
      rw [upd_ne (Nat.ne_of_lt hb')]
      exact (hf b hb).1
  done := by
    intro X hP hw hK hc i pins s σ H E I hf st hg
    subst hP hw hK
    obtain ⟨⟨old, he⟩, hit, hne⟩ := st
    obtain ⟨xs, hq, hx⟩ := hg
    obtain ⟨its, rv, p, hz⟩ := I.tuple (xs := xs) (SqT.of hq)
    obtain ⟨f0, f1, f2, f3, f4, f5⟩ := hf it (by simp)
    have hl := rv.length
    exact enumT_end (I.ok.hd hc) he hit p (by simp; omega) fun h' eb => ⟨rfl, I.turned (t' := s.toks) (fun b o hb q => eb b o hb q) f0 f1 f3 f4 f5⟩
  self := fun A i s Q E st h => let ⟨⟨_, he⟩, _⟩ := st; wpAny_pyIter_enum he h
end CC
set_option Elab.async false
set_option linter.all false
set_option maxRecDepth 100000
/-! CCEnum2: rules for enumerate, zip, texts -/
namespace CC
open PySem PySem.Spec PyProof.Rows L2

def iEnT (ta : TA) : TI := fun σ H R => ta σ H fun vs H1 => ∃ a xs, vs = [.ref a] ∧ H1 a = some (.tup xs) ∧ R (ItU a) H1
theorem pi_enumT {X : Cx} {e : Expr} {ta : TA} {p pos tpos : Pos} {elts : List Expr} {kk : Nat} (hg : Gl X "enumerate") (hm : X.mg "enumerate" = none) (ha : PA X [e] ta) (hs : starEach [e] X.env = [(false, eval e X.env)] := by rfl) :
    PI X (.Tuple elts kk tpos) (.Call (.Name "enumerate" p) [e] [] pos) (iEnT ta) := by
  refine ⟨fun pins s σ H R I h => ?_⟩
  refine Call_ (ld_blt I hg hm boot_enumerate (PyProof.Rows.callWith_type1 (thn (ha.run pos pins s σ H _ I h) fun us s1 ⟨vs, H1, I1, r1, q1⟩ => ?_) hs rfl))
  obtain ⟨a, xs, ex, hq, q⟩ := q1
  subst ex
  cases r1 with
  | cons r rr =>
    cases rr
    cases r
    obtain ⟨its, rv, p', hz⟩ := I1.tuple (xs := xs) (SqT.of hq)
    refine enum_call (begins_tuple a its.toArray) p' fun h' he hit hk => wpAny_pyIter_enum he ?_
    have I2 : Inv X pins σ H1 { s1 with heap := h' } := I1.kept (t' := s1.toks) hk
    refine ⟨s1.heap.objs.size + 1, [s1.heap.objs.size + 1, s1.heap.objs.size], _, _, H1, rfl, I2, turn_enumT a (s1.heap.objs.size + 1) s1.heap.objs.size, ⟨⟨.none, he⟩, ⟨_, hit, rfl, rfl⟩, Nat.succ_ne_self _⟩, fun b hb => ?_, q⟩
    have hle : s1.heap.objs.size ≤ b := by
      rcases (show b = s1.heap.objs.size + 1 ∨ b = s1.heap.objs.size by simpa using hb) with z | z
      · rw [z]; exact Nat.le_add_right _ _
      · rw [z]; exact Nat.le_refl _
    exact I1.fpOk hle (I1.hok.fresh hle)
def iEnm (ma : Lo → S → R W) (p : Hh) : Lo → S → R ItD := fun l s => (ma l s).bind fun w s1 => match w with
  | .ref n => (match cellItems p s1 n with | some _ => .ok (.enl n) s1 | none => .bad)
  | .tup ws => .ok (.ent ws) s1
  | _ => .bad
def iZip (ma mb : Lo → S → R W) (p : Hh) : Lo → S → R ItD := fun l s => (ma l s).bind fun w s1 => (mb l s1).bind fun u s2 => match w, u with
  | .ref n, .ref m => (match cellItems p s2 n, cellItems p s2 m with | some _, some _ => .ok (.zip n m) s2 | _, _ => .bad)
  | _, _ => .bad
section
variable {G : GE} {p : Hh} {E : WX} {X : Cx} {ρ : List Addr} {H : Hp} {s : S}
theorem ri_ent {ws : List W} {vs : List V} {a : Addr} (na : a ∉ ρ) (h : H a = some (.tup vs)) (r : RVs G ρ H ws vs) : RI G p ρ H (.ent ws) (ItU a) where
  yes := fun i w s ρ1 H1 x rp q => by
    have q : ws[i]?.map (fun w => W.tup [.int (i : Nat), w]) = some w := Option.some.inj q
    cases q2 : ws[i]? with
    | none => rw [q2] at q; cases q
    | some w1 =>
      rw [q2] at q
      cases q
      have h1 := x.keep _ _ na h
      obtain ⟨v, hv, rv⟩ := (r.mono x).get q2
      refine ⟨⟨vs, v, h1, hv⟩, fun y H2 hy => ?_⟩
      obtain ⟨T, x1, rfl, nT, rfl, hy⟩ := hy
      have e2 := hy vs h1
      rw [hv] at e2; cases e2
      exact pair_new rp nT (.int _) rv
  no := fun i s ρ1 H1 x rp q => by
    have q : ws[i]?.map (fun w => W.tup [.int (i : Nat), w]) = none := Option.some.inj q
    exact ⟨vs, x.keep _ _ na h, by rw [← r.len]; exact List.getElem?_eq_none_iff.mp (by simpa using q)⟩
variable {a b : Expr} {ma mb : Lo → S → R W} {q' pos tpos : Pos} {elts : List Expr} {kk : Nat}
theorem si_enum (hm : X.mg "enumerate" = none) (ha : SE G p E X a ma) (hg : Gl X "enumerate" := by rfl) (hs : starEach [a] X.env = [(false, eval a X.env)] := by rfl) (hs2 : starEach (a :: []) X.env = (false, eval a X.env) :: starEach [] X.env := by rfl) : SI G p E X (.Tuple elts kk tpos) (.Call (.Name "enumerate" q') [a] [] pos) (iEnm ma p) :=
  PI_imp (PI_or (pi_enum hg hm (pa1 ha hs2) hs) (pi_enumT hg hm (pa1 ha hs2) hs)) fun σ H R' ⟨ρ, l, s, rl, rp, h⟩ => by
    unfold iEnm at h
    cases e : ma l s with
    | bad => rw [e] at h; exact h.elim
    | exc c w s1 =>
      refine .inl ⟨ρ, l, s, rl, rp, ?_⟩
      rw [e] at h ⊢
      exact h
    | ok w s1 =>
      rw [e] at h
      simp only [CC.R.bind] at h
      cases w with
      | ref n =>
        dsimp only at h
        cases q : cellItems p s1 n with
        | none => rw [q] at h; exact h.elim
        | some ws =>
          rw [q] at h
          refine .inl ⟨ρ, l, s, rl, rp, ?_⟩
          rw [e]
          refine fun ρ1 H1 v x1 rp1 rv => ?_
          cases rv with
          | ref e1 =>
            obtain ⟨vs, hs, _⟩ := cell_seq (K := X.K) rp1 q e1
            exact ⟨_, _, rfl, hs, h ρ1 H1 _ x1 rp1 (ri_enl e1)⟩
      | tup ws =>
        refine .inr ⟨ρ, l, s, rl, rp, ?_⟩
        rw [e]
        refine fun ρ1 H1 v x1 rp1 rv => ?_
        cases rv with
        | tup na h1 r => exact ⟨_, _, rfl, h1, h ρ1 H1 _ x1 rp1 (ri_ent na h1 r)⟩
      | _ => exact h.elim
theorem ri_zip {K : PySem.W.Frag} {n m : Nat} {a b : Addr} (e : ρ[n]? = some a) (e' : ρ[m]? = some b) : RI G p ρ H (.zip n m) (Itz K a b) where
  yes := fun i w s ρ1 H1 x rp h => by
    simp only [ItD.next] at h
    cases q : cellItems p s n with
    | none => rw [q] at h; cases h
    | some ws =>
      cases q' : cellItems p s m with
      | none => rw [q, q'] at h; cases h
      | some us =>
        rw [q, q'] at h
        dsimp only at h
        cases g : ws[i]? with
        | none => rw [g] at h; cases h
        | some w1 =>
          cases g' : us[i]? with
          | none => rw [g, g'] at h; cases h
          | some u1 =>
            rw [g, g'] at h
            cases h
            obtain ⟨vs, hs, r⟩ := cell_seq (K := K) rp q (x.get e)
            obtain ⟨vs', hs', r'⟩ := cell_seq (K := K) rp q' (x.get e')
            obtain ⟨v, hv, rv⟩ := r.get g
            obtain ⟨v', hv', rv'⟩ := r'.get g'
            refine ⟨⟨vs, vs', v, v', hs, hs', hv, hv'⟩, fun y H2 hy => ?_⟩
            obtain ⟨T, x1, y1, rfl, nT, rfl, hy, hy'⟩ := hy
            have e2 := hy vs hs
            rw [hv] at e2; cases e2
            have e3 := hy' vs' hs'
            rw [hv'] at e3; cases e3
            exact pair_new rp nT rv rv'
  no := fun i s ρ1 H1 x rp h => by
    simp only [ItD.next] at h
    cases q : cellItems p s n with
    | none => rw [q] at h; cases h
    | some ws =>
      cases q' : cellItems p s m with
      | none => rw [q, q'] at h; cases h
      | some us =>
        rw [q, q'] at h
        dsimp only at h
        obtain ⟨vs, hs, r⟩ := cell_seq (K := K) rp q (x.get e)
        obtain ⟨vs', hs', r'⟩ := cell_seq (K := K) rp q' (x.get e')
        refine ⟨vs, vs', hs, hs', ?_⟩
        rw [← r.len, ← r'.len]
        cases g : ws[i]? with
        | none => exact .inl (List.getElem?_eq_none_iff.mp g)
        | some w1 =>
          cases g' : us[i]? with
          | none => exact .inr (List.getElem?_eq_none_iff.mp g')
          | some u1 => rw [g, g'] at h; cases h
theorem si_zip (hm : X.mg "zip" = none) (ha : SE G p E X a ma) (hb : SE G p E X b mb) (hg : Gl X "zip" := by rfl) (hs : starEach [a, b] X.env = (false, eval a X.env) :: starEach [b] X.env := by rfl) (hs2 : starEach (b :: []) X.env = (false, eval b X.env) :: starEach [] X.env := by rfl)
    (hpl : (backTo pos (starEach [b] X.env)).any (·.1) = false := by rfl) : SI G p E X (.Tuple elts kk tpos) (.Call (.Name "zip" q') [a, b] [] pos) (iZip ma mb p) :=
  PI_imp (RZ.pi_zipA hg hm (pa_cons ha (pa1 hb hs2) hs) hs hpl) fun σ H R' ⟨ρ, l, s, rl, rp, h⟩ => by
    unfold iZip at h
    refine ⟨ρ, l, s, rl, rp, PoA.bind h fun w s1 ρ1 H1 v x1 rp1 rv1 h1 => ⟨ρ1, l, s1, rl.mono x1, rp1, PoA.bind h1 fun u s2 ρ2 H2 v2 x2 rp2 rv2 h2 => ?_⟩⟩
    cases rv1 with
    | @ref n a' e =>
      cases rv2 with
      | @ref m b' e' =>
        dsimp only at h2
        cases q : cellItems p s2 n with
        | none => rw [q] at h2; exact h2.elim
        | some ws =>
          cases q' : cellItems p s2 m with
          | none => rw [q, q'] at h2; exact h2.elim
          | some us =>
            rw [q, q'] at h2
            obtain ⟨vs, hs, r⟩ := cell_seq (K := X.K) rp2 q (x2.get e)
            obtain ⟨vs', hs', r'⟩ := cell_seq (K := X.K) rp2 q' e'
            exact ⟨a', b', vs, vs', rfl, .inl ⟨hs, hs', h2 ρ2 H2 _ Ex.rfl' rp2 (ri_zip (x2.get e) e')⟩⟩
      | _ => exact h2.elim
    | _ => exact h2.elim
end
end CC
set_option Elab.async false
set_option linter.all false
set_option maxRecDepth 100000
/-! CCSub3: += of names, dicts, list(range(..)) -/
namespace CC
open PySem PySem.Spec PyProof.Rows L2

def gISub (p : Hh) (x y : W) (s : S) : O2 := match x, y with
  | .int i, .int j => some (.int (i - j), s)
  | _, _ => none
def gIMul (p : Hh) (x y : W) (s : S) : O2 := match x, y with
  | .int i, .int j => if i64 i || i64 j then some (.int (i * j), s) else none
  | _, _ => none
/-- {} with keys that are numbers and texts; with keys that are tuples of such -/
def eDct (p : Hh) : Lo → S → R W := fun _ s => .ok (.ref (nxt p s)) (al s (.dct []))
def eDtt (p : Hh) : Lo → S → R W := fun _ s => .ok (.ref (nxt p s)) (al s (.dtt []))
def isDic (p : Hh) (s : S) (w : W) : Bool := match w with
  | .ref n => (match rd p s n with
    | some (.dct _) => true
    | some (.dtt _) => true
    | _ => false)
  | _ => false
def eGet2 (p : Hh) (mo mi md : Lo → S → R W) : Lo → S → R W := fun l s => (mo l s).bind fun o s1 => if isDic p s1 o then (mi l s1).bind fun i s2 => (md l s2).bind fun d s3 => (match gDic p o i s3 with
  | some (some w) => .ok w s3
  | some none => .ok d s3
  | none => .bad) else .bad
def eGet1 (p : Hh) (mo mi : Lo → S → R W) : Lo → S → R W := fun l s => (mo l s).bind fun o s1 => if isDic p s1 o then (mi l s1).bind fun i s2 => (match gDic p o i s2 with
  | some (some w) => .ok w s2
  | some none => .ok .non s2
  | none => .bad) else .bad
def rngW (lo c : Int) : Nat → List W
  | 0 => []
  | n + 1 => .int lo :: rngW (lo + c) c n
def eRgL (p : Hh) (mi : Lo → S → R ItD) : Lo → S → R W := fun l s => (mi l s).bind fun d s1 => match d with
  | .rng lo c n => if n ≤ 1000000 then .ok (.ref (nxt p s1)) (al s1 (.lst (rngW lo c n))) else .bad
  | _ => .bad
section
variable {G : GE} {X : Cx} {ρ : List Addr} {H : Hp} {p : Hh} {s : S} {E : WX} {a b o i d e : Expr} {ma mb mo mi md : Lo → S → R W} {pos apos cpos q' q2 : Pos}
theorem i_iadd : IpI G X .Add gIAdd := by
  intro p pins sh σ H v u v' u' Q I rv ru ⟨ρ, s, x, y, rp, r1, r2, h⟩
  unfold gIAdd at h
  cases r1 with
  | int i => cases r2 with
    | int j => exact iop_add pins sh σ H _ _ v' u' Q I rv ru ⟨i, j, rfl, rfl, po_v h rp (.int _)⟩
    | _ => exact h.elim
  | @ref n a e => cases r2 with
    | @ref m b e' =>
      dsimp only at h
      split at h
      · rename_i ws us hx hy
        split at h
        · rename_i hl
          obtain ⟨vs, hv, r⟩ := lst_at rp hx e
          obtain ⟨zs, hz, r'⟩ := lst_at rp hy e'
          exact iop_ext pins sh σ H _ _ v' u' Q I rv ru ⟨a, b, vs, zs, rfl, rfl, hv, hz, by rw [← r.len, ← r'.len]; exact million hl, po_wr rp e h (fun x => .lst ((r.mono x).app (r'.mono x))) fun x => .ref e⟩
        · exact h.elim
      · exact h.elim
    | _ => exact h.elim
  | _ => exact h.elim
theorem i_isub : IpI G X .Sub gISub := by
  intro p pins sh σ H v u v' u' Q I rv ru ⟨ρ, s, x, y, rp, r1, r2, h⟩
  unfold gISub at h
  cases r1 with
  | int i => cases r2 with
    | int j => exact iop_sub pins sh σ H _ _ v' u' Q I rv ru ⟨i, j, rfl, rfl, po_v h rp (.int _)⟩
    | _ => exact h.elim
  | _ => exact h.elim
theorem i_imul : IpI G X .Mult gIMul := by
  intro p pins sh σ H v u v' u' Q I rv ru ⟨ρ, s, x, y, rp, r1, r2, h⟩
  unfold gIMul at h
  cases r1 with
  | int i => cases r2 with
    | int j =>
      dsimp only at h
      split at h
      · rename_i hc
        exact iop_mul pins sh σ H _ _ v' u' Q I rv ru ⟨i, j, rfl, rfl, i64_ok hc, po_v h rp (.int _)⟩
      · exact h.elim
    | _ => exact h.elim
  | _ => exact h.elim
theorem se_dct : SE G p E X (.Dict [] [] pos) (eDct p) := PE_imp pe_dnewK fun σ H Q ⟨ρ, l, s, rl, rp, h⟩ q hq => by
  have x : Ex ρ H (ρ ++ [q]) (upd H q (.dK [])) := Ex.al rp hq
  obtain ⟨_, r2, r3⟩ := rp.al_ (o := .dct []) (u := .dK []) hq (.dK rfl .nil)
  exact h _ _ _ x r2 r3
theorem se_dtt : SE G p E X (.Dict [] [] pos) (eDtt p) := PE_imp pe_dnewT fun σ H Q ⟨ρ, l, s, rl, rp, h⟩ q hq => by
  have x : Ex ρ H (ρ ++ [q]) (upd H q (.dT [])) := Ex.al rp hq
  obtain ⟨_, r2, r3⟩ := rp.al_ (o := .dtt []) (u := .dT []) hq (.dT rfl .nil)
  exact h _ _ _ x r2 r3
theorem isD_of {w : W} {v : V} (rp : Rep G ρ p s H) (r : RV G ρ H w v) (h : isDic p s w = true) : ∃ a, v = .ref a ∧ IsD H a := by
  cases r with
  | @ref n a e =>
    simp only [isDic] at h
    cases z : rd p s n with
    | none => rw [z] at h; cases h
    | some ob =>
      rw [z] at h
      obtain ⟨u, hu, q⟩ := rp.at z e
      cases q with
      | @dK kvs ks q1 q2 => exact ⟨a, rfl, .inl ⟨ks, .inl hu⟩⟩
      | @dT kvs ks q1 q2 => exact ⟨a, rfl, .inr ⟨ks, .inl hu⟩⟩
      | _ => cases h
  | _ => cases h
theorem se_get2 (hu : X.A.units + 1 < cLine) (ho : SE G p E X o mo) (hi : SE G p E X i mi) (hd : SE G p E X d md) (m : M2 X o "get" apos i d cpos) : SE G p E X (.Call (.Attribute o "get" apos) [i, d] [] cpos) (eGet2 p mo mi md) :=
  PE_imp (pe_dget2 hu ho hi hd m) fun σ H Q ⟨ρ, l, s, rl, rp, h⟩ => by
    unfold eGet2 at h
    refine ⟨ρ, l, s, rl, rp, PoA.bind h fun w s1 ρ1 H1 v x1 rp1 rv1 h1 => ?_⟩
    split at h1
    · rename_i hdd
      obtain ⟨a, rfl, hda⟩ := isD_of rp1 rv1 hdd
      refine ⟨a, rfl, hda, ρ1, l, s1, rl.mono x1, rp1, PoA.bind h1 fun w2 s2 ρ2 H2 v2 x2 rp2 rv2 h2 => ⟨ρ2, l, s2, (rl.mono x1).mono x2, rp2, PoA.bind h2 fun w3 s3 ρ3 H3 v3 x3 rp3 rv3 h3 => ?_⟩⟩
      cases g : gDic p w w2 s3 with
      | none => rw [g] at h3; exact h3.elim
      | some r =>
        obtain ⟨a', r', e, dg, n1, n2⟩ := dic_at rp3 ((rv1.mono x2).mono x3) (rv2.mono x3) g
        cases e
        rw [g] at h3
        refine ⟨r', dg, ?_⟩
        cases r with
        | none =>
          rw [n1 rfl]
          exact h3 ρ3 H3 _ Ex.rfl' rp3 rv3
        | some w4 =>
          obtain ⟨v4, rfl, rv4⟩ := n2 w4 rfl
          exact h3 ρ3 H3 _ Ex.rfl' rp3 rv4
    · exact h1.elim
theorem se_get1 (hu : X.A.units + 1 < cLine) (ho : SE G p E X o mo) (hi : SE G p E X i mi) (m : M1 X o "get" apos i cpos) : SE G p E X (.Call (.Attribute o "get" apos) [i] [] cpos) (eGet1 p mo mi) :=
  PE_imp (pe_dget1 hu ho hi m) fun σ H Q ⟨ρ, l, s, rl, rp, h⟩ => by
    unfold eGet1 at h
    refine ⟨ρ, l, s, rl, rp, PoA.bind h fun w s1 ρ1 H1 v x1 rp1 rv1 h1 => ?_⟩
    split at h1
    · rename_i hdd
      obtain ⟨a, rfl, hda⟩ := isD_of rp1 rv1 hdd
      refine ⟨a, rfl, hda, ρ1, l, s1, rl.mono x1, rp1, PoA.bind h1 fun w2 s2 ρ2 H2 v2 x2 rp2 rv2 h2 => ?_⟩
      cases g : gDic p w w2 s2 with
      | none => rw [g] at h2; exact h2.elim
      | some r =>
        obtain ⟨a', r', e, dg, n1, n2⟩ := dic_at rp2 (rv1.mono x2) rv2 g
        cases e
        rw [g] at h2
        refine ⟨r', dg, ?_⟩
        cases r with
        | none =>
          rw [n1 rfl]
          exact h2 ρ2 H2 _ Ex.rfl' rp2 .non
        | some w4 =>
          obtain ⟨v4, rfl, rv4⟩ := n2 w4 rfl
          exact h2 ρ2 H2 _ Ex.rfl' rp2 rv4
    · exact h1.elim
/-! range as a list -/
theorem rngW_ok {lo c : Int} : ∀ {n : Nat} {k : Nat}, RVs G ρ H (rngW (lo + (k : Nat) * c) c n) ((List.range' k n).map fun i => V.int (lo + (i : Nat) * c))
  | 0, k => .nil
  | n + 1, k => by
    simp only [rngW, List.range'_succ, List.map_cons]
    refine .cons (.int _) ?_
    have e : lo + (k : Nat) * c + c = lo + ((k + 1 : Nat) : Int) * c := by
      have : ((k + 1 : Nat) : Int) = (k : Int) + 1 := by omega
      rw [this, Int.add_mul, Int.one_mul, Int.add_assoc]
    rw [e]
    exact rngW_ok
/-- an expression that makes a range -/
def PRc (X : Cx) (e : Expr) (t : L2.St → Hp → (Int → Int → Nat → Hp → Prop) → Prop) : Prop :=
  ∀ (pins : List (Addr × Obj)) (s : Shared) (σ : L2.St) (H : Hp) (Q : Int → Int → Nat → Hp → Prop), Inv X pins σ H s → t σ H Q →
    wpAny (model X.prog X.w) X.A (eval e X.env) (fun x s' => ∃ r a b c t u v n H', x = .ref r ∧ IsRange s'.heap r a b c t u v ∧ Builtin.Range.small a b c = true ∧ Builtin.Range.rangeSize a b c = (n : Nat) ∧ Inv X pins σ H' s' ∧ Q a c n H') X.xe s
def tRc (G : GE) (p : Hh) (E : WX) (m : Lo → S → R ItD) : L2.St → Hp → (Int → Int → Nat → Hp → Prop) → Prop := fun σ H Q => ∃ ρ l s, RL G ρ H l σ ∧ Rep G ρ p s H ∧ PoA G p ρ H (fun _ _ d b => ∃ lo c n, d = .rng lo c n ∧ b = (lo, c, n)) (m l s) (fun b H' => Q b.1 b.2.1 b.2.2 H') (fun c d H' => E c d σ H')
theorem rc_1 (hm : X.mg "range" = none) (ha : SE G p E X a ma) (hg : Gl X "range" := by rfl) (na : starEach [a] X.env = (false, eval a X.env) :: starEach [] X.env := by rfl) : PRc X (.Call (.Name "range" q') [a] [] pos) (tRc G p E (iRange1 ma)) := by
  intro pins sh σ H Q I ⟨ρ, l, s, rl, rp, h⟩
  unfold iRange1 at h
  have h' := PoA.bind (rel := RV G) (Q := fun v H1 => ∃ j, v = .int j ∧ b62 j = true ∧ Q 0 1 j.toNat H1) h fun w s1 ρ1 H1 v x1 rp1 rv1 h1 => by
    cases rv1 with
    | int j =>
      dsimp only at h1
      split at h1
      · rename_i hb
        exact ⟨j, rfl, hb, h1 ρ1 H1 (0, 1, j.toNat) Ex.rfl' rp1 ⟨_, _, _, rfl, rfl⟩⟩
      · exact h1.elim
    | _ => exact h1.elim
  refine Call_ (ld_blt I hg hm boot_range (PyProof.Rows.callWith_type1 (one_arg ha I ⟨ρ, l, s, rl, rp, h'⟩ (fun v s2 x H2 I2 r q => ?_) na) na))
  obtain ⟨j, rfl, hb, q⟩ := q
  obtain ⟨t, rfl⟩ := r
  obtain ⟨b1, b2⟩ := b62_ok hb
  exact call_range_1 ⟨_, 0, j, 1, _, _, _, j.toNat, H2, rfl, IsRange.new _ _ _ _ _ _ _, small_one (by decide) (by decide) b1 b2, by simpa using rangeSize_nat 0 j, I2.kept fun b u e => Heap.get?_push_of_some _ e, q⟩
theorem rc_2 (hm : X.mg "range" = none) (ha : SE G p E X a ma) (hb : SE G p E X b mb) (hg : Gl X "range" := by rfl) (na : starEach [a, b] X.env = (false, eval a X.env) :: starEach [b] X.env := by rfl) (nb : starEach [b] X.env = (false, eval b X.env) :: starEach [] X.env := by rfl) (hp : (backTo pos (starEach [b] X.env)).any (·.1) = false := by rfl) :
    PRc X (.Call (.Name "range" q') [a, b] [] pos) (tRc G p E (iRange2 ma mb)) := by
  intro pins sh σ H Q I ⟨ρ, l, s, rl, rp, h⟩
  unfold iRange2 at h
  have h' := PoA.bind (rel := RV G) (Q := fun v H1 => tI G p E mb σ H1 fun u H2 => ∃ i j, v = .int i ∧ u = .int j ∧ b62 i = true ∧ b62 j = true ∧ Q i 1 (j - i).toNat H2) h fun w s1 ρ1 H1 v x1 rp1 rv1 h1 => ⟨ρ1, l, s1, rl.mono x1, rp1, PoA.bind h1 fun w2 s2 ρ2 H2 v2 x2 rp2 rv2 h2 => by
    cases rv1 with
    | int i =>
      cases rv2 with
      | int j =>
        dsimp only at h2
        split at h2
        · rename_i hb
          obtain ⟨c1, c2⟩ := Bool.and_eq_true_iff.mp hb
          exact ⟨i, j, rfl, rfl, c1, c2, h2 ρ2 H2 (i, 1, (j - i).toNat) Ex.rfl' rp2 ⟨_, _, _, rfl, rfl⟩⟩
        · exact h2.elim
      | _ => exact h2.elim
    | _ => exact h2.elim⟩
  refine Call_ (ld_blt I hg hm boot_range (PyProof.Rows.callWith_type1 (args_cons (thn (ha.run pins sh σ H _ I ⟨ρ, l, s, rl, rp, h'⟩) fun v s1 ⟨x, H1, I1, r1, q1⟩ => one_arg hb I1 q1 (fun u s2 y H2 I2 r2 q => ?_) nb) na) na hp))
  obtain ⟨i, j, rfl, rfl, h1, h2, q⟩ := q
  obtain ⟨t, rfl⟩ := r1
  obtain ⟨t', rfl⟩ := r2
  obtain ⟨b1, b2⟩ := b62_ok h1
  obtain ⟨b3, b4⟩ := b62_ok h2
  exact call_range_2 ⟨_, i, j, 1, _, _, _, (j - i).toNat, H2, rfl, IsRange.new _ _ _ _ _ _ _, small_one b1 b2 b3 b4, rangeSize_nat i j, I2.kept fun b u e => Heap.get?_push_of_some _ e, q⟩
theorem rc_3 {c : Expr} {mc : Lo → S → R W} (hm : X.mg "range" = none) (ha : SE G p E X a ma) (hb : SE G p E X b mb) (hc : SE G p E X c mc) (hg : Gl X "range" := by rfl) (hs : starEach [a, b, c] X.env = (false, eval a X.env) :: starEach [b, c] X.env := by rfl) (hs2 : starEach (b :: [c]) X.env = (false, eval b X.env) :: starEach [c] X.env := by rfl) (hs3 : starEach (c :: []) X.env = (false, eval c X.env) :: starEach [] X.env := by rfl)
    (hpl : (backTo pos (starEach [b, c] X.env)).any (·.1) = false := by rfl) : PRc X (.Call (.Name "range" q') [a, b, c] [] pos) (tRc G p E (iRange3 ma mb mc)) := by
  intro pins sh σ H Q I ⟨ρ, l, s, rl, rp, h⟩
  unfold iRange3 at h
  have h' : tCons (tI G p E ma) (tCons (tI G p E mb) (tCons (tI G p E mc) tNil)) σ H (fun vs H1 => ∃ (i j k : Int) (n : Nat), vs = [.int i, .int j, .int k] ∧ RgC i j k n ∧ Q i k n H1) :=
    ⟨ρ, l, s, rl, rp, PoA.bind h fun w s1 ρ1 H1 v x1 rp1 rv1 h1 => ⟨ρ1, l, s1, rl.mono x1, rp1, PoA.bind h1 fun w2 s2 ρ2 H2 v2 x2 rp2 rv2 h2 => ⟨ρ2, l, s2, (rl.mono x1).mono x2, rp2, PoA.bind h2 fun w3 s3 ρ3 H3 v3 x3 rp3 rv3 h3 => by
      cases rv1 with
      | int i =>
        cases rv2 with
        | int j =>
          cases rv3 with
          | int k =>
            dsimp only at h3
            split at h3
            · rename_i hk
              subst hk
              split at h3
              · rename_i hb
                obtain ⟨c1, c2⟩ := Bool.and_eq_true_iff.mp hb
                obtain ⟨b1, b2⟩ := b62_ok c1
                obtain ⟨b3, b4⟩ := b62_ok c2
                exact ⟨i, j, -1, _, rfl, RgC.neg b1 b2 b3 b4, h3 ρ3 H3 (i, -1, (i - j).toNat) Ex.rfl' rp3 ⟨_, _, _, rfl, rfl⟩⟩
              · exact h3.elim
            · split at h3
              · rename_i hb
                unfold rgOk at hb
                obtain ⟨hb, c4⟩ := Bool.and_eq_true_iff.mp hb
                obtain ⟨hb, c3⟩ := Bool.and_eq_true_iff.mp hb
                obtain ⟨c1, c2⟩ := Bool.and_eq_true_iff.mp hb
                exact ⟨i, j, k, _, rfl, ⟨of_decide_eq_true c1, of_decide_eq_true c2, c3, of_decide_eq_true c4⟩, h3 ρ3 H3 (i, k, (Builtin.Range.rangeSize i j k).toNat) Ex.rfl' rp3 ⟨_, _, _, rfl, rfl⟩⟩
              · exact h3.elim
          | _ => exact h3.elim
        | _ => exact h3.elim
      | _ => exact h3.elim⟩⟩⟩
  refine Call_ (ld_blt I hg hm boot_range (PyProof.Rows.callWith_type1 (thn ((pa_cons ha (pa_cons hb (pa1 hc hs3) hs2) hs).run pos pins sh σ H _ I h') fun us s1 ⟨vs, H1, I1, r1, q1⟩ => ?_) hs hpl))
  obtain ⟨i, j, k, n, e, ⟨c0, c1, c2, c3⟩, q⟩ := q1
  subst e
  cases r1 with
  | cons r rr =>
    cases rr with
    | cons r' rr =>
      cases rr with
      | cons r'' rr =>
        cases rr
        obtain ⟨t, rfl⟩ := r
        obtain ⟨t', rfl⟩ := r'
        obtain ⟨t'', rfl⟩ := r''
        exact call_range_3 c0 ⟨_, i, j, k, t, t', t'', n, H1, rfl, IsRange.new .., c2, c3, I1.kept (t' := s1.toks) fun b o e => Heap.get?_push_of_some _ e, q⟩ (.inl (PyProof.noPylong_small c1))
theorem vals_rc {a c : Int} {n : Nat} {acc : Array Value} (h : ItemsOf (fun i v => ∃ t, v = .int (a + i * c) t) acc n) : Vals ((List.range' 0 n).map fun i => V.int (a + (i : Nat) * c)) acc.toList := by
  have e : acc.toList.length = n := by rw [Array.length_toList]; exact h.1
  rw [← e, ← List.range_eq_range']
  refine vals_of_get acc.toList _ fun j u hj => ?_
  obtain ⟨t, rfl⟩ := h.2 j u (by rw [← hj, Array.getElem?_toList])
  exact ⟨t, rfl⟩
/-- list(range(..)) -/
theorem se_rgl {mi : Lo → S → R ItD} (hc : X.calm = true) (hm : X.mg "list" = none) (he : PRc X e (tRc G p E mi)) (hg : Gl X "list" := by rfl) (na : starEach [e] X.env = (false, eval e X.env) :: starEach [] X.env := by rfl) : SE G p E X (.Call (.Name "list" q') [e] [] pos) (eRgL p mi) := by
  refine ⟨fun pins sh σ H Q I ⟨ρ, l, s, rl, rp, h⟩ => ?_⟩
  unfold eRgL at h
  have h' := PoA.bind (rel := fun _ _ d b => ∃ lo c n, d = ItD.rng lo c n ∧ b = (lo, c, n)) (Q := fun (b : Int × Int × Nat) H1 => b.2.2 ≤ 1000000 ∧ ∀ q, H1 q = none → Q (.ref q) (upd H1 q (.lst ((List.range' 0 b.2.2).map fun i => V.int (b.1 + (i : Nat) * b.2.1))))) h fun d s1 ρ1 H1 v x1 rp1 rv1 h1 => by
    obtain ⟨lo, c, n, rfl, rfl⟩ := rv1
    dsimp only at h1
    split at h1
    · rename_i hn
      refine ⟨hn, fun q hq => ?_⟩
      have rr : ∀ {ρ : List Addr} {H : Hp}, RVs G ρ H (rngW lo c n) ((List.range' 0 n).map fun i => V.int (lo + (i : Nat) * c)) := fun {ρ H} => by
        have := rngW_ok (G := G) (ρ := ρ) (H := H) (lo := lo) (c := c) (n := n) (k := 0)
        simpa using this
      have x : Ex ρ1 H1 (ρ1 ++ [q]) (upd H1 q (.lst ((List.range' 0 n).map fun i => V.int (lo + (i : Nat) * c)))) := Ex.al rp1 hq
      obtain ⟨_, r2, r3⟩ := rp1.al_ (o := .lst (rngW lo c n)) hq (.lst rr)
      exact h1 _ _ _ x r2 r3
    · exact h1.elim
  refine Call_ (ld_blt I hg hm boot_list (PyProof.Rows.callWith_type1 (args_cons (thn (he pins sh σ H (fun a c n H1 => n ≤ 1000000 ∧ ∀ q, H1 q = none → Q (.ref q) (upd H1 q (.lst ((List.range' 0 n).map fun i => V.int (a + (i : Nat) * c))))) I ⟨ρ, l, s, rl, rp, h'⟩) fun x s1 ⟨r, a, b, c, t, u, v, n, H1, ex, hr, b1, b2, I1, hn, q⟩ => args_nil ?_) na) na))
  subst ex
  refine call_list_range (n := n) (I1.ok.hd hc) hr b1 b2 (by have : n ≤ 1000000 := hn; omega) fun h' tk acc c' hk e' hi => ?_
  refine ⟨.ref s1.heap.objs.size, _, I1.laid hk (Nat.le_refl _) (show ObjOk X.prog X.w _ _ _ (.lst ((List.range' 0 n).map fun i => V.int (a + (i : Nat) * c))) from ⟨?_, acc.toList, c', vals_rc hi, ?_⟩), rfl, q _ (I1.hok.fresh (Nat.le_refl _))⟩
  · rw [List.length_map, List.length_range']; exact million hn
  · rw [Array.toArray_toList]; exact e'
/-! in, of lists, tuples, dicts -/
def gInA (p : Hh) (x y : W) (s : S) : O2 := match gDic p y x s with
  | some r => some (.bl r.isSome, s)
  | none => gIn p x y s
def gNotInA (p : Hh) (x y : W) (s : S) : O2 := match gDic p y x s with
  | some r => some (.bl (!r.isSome), s)
  | none => gNotIn p x y s
theorem isSome_of {r : Option W} {r' : Option V} (n1 : r = none → r' = none) (n2 : ∀ w, r = some w → ∃ v, r' = some v ∧ RV G ρ H w v) : r'.isSome = r.isSome := by
  cases r with
  | none => rw [n1 rfl] <;> rfl
  | some w => obtain ⟨v, rfl, _⟩ := n2 w rfl; rfl
theorem i_inA (hu : X.A.units + 65 < cLine) : OpI G X (compareOp .In) gInA := by
  intro p pins sh σ H v u v' u' Q I rv ru ⟨ρ, s, x, y, rp, r1, r2, h⟩
  unfold gInA at h
  cases g : gDic p y x s with
  | none => rw [g] at h; exact i_in hu p pins sh σ H v u v' u' Q I rv ru ⟨ρ, s, x, y, rp, r1, r2, h⟩
  | some r =>
    rw [g] at h
    obtain ⟨a, r', rfl, dg, n1, n2⟩ := dic_at rp r2 r1 g
    cases ru
    refine d_in (by omega) I dg rv fun s3 I3 => ⟨.bl _, H, I3, rfl, ?_⟩
    rw [isSome_of n1 n2]
    exact po_v h rp (.bl _)
theorem i_notInA (hu : X.A.units + 65 < cLine) : OpI G X (compareOp .NotIn) gNotInA := by
  intro p pins sh σ H v u v' u' Q I rv ru ⟨ρ, s, x, y, rp, r1, r2, h⟩
  unfold gNotInA at h
  cases g : gDic p y x s with
  | none => rw [g] at h; exact i_notIn hu p pins sh σ H v u v' u' Q I rv ru ⟨ρ, s, x, y, rp, r1, r2, h⟩
  | some r =>
    rw [g] at h
    obtain ⟨a, r', rfl, dg, n1, n2⟩ := dic_at rp r2 r1 g
    cases ru
    refine d_notIn (by omega) I dg rv fun s3 I3 => ⟨.bl _, H, I3, rfl, ?_⟩
    rw [isSome_of n1 n2]
    exact po_v h rp (.bl _)
end
end CC
set_option Elab.async false
set_option linter.all false
set_option maxRecDepth 100000
/-! CCEnd: the end of a law -/
namespace CC
open PySem PySem.Spec PyProof.Rows L2

def noLists (K : PySem.W.Frag) : Bool := K.all fun p => match p.2.cls with
  | .type n => n != "list"
  | _ => true
theorem mem_lk : ∀ {K : List (Addr × Obj)} {a : Addr} {o : Obj}, K.lookup a = some o → (a, o) ∈ K
  | [], _, _, h => by cases h
  | (b, u) :: r, a, o, h => by
    rw [List.lookup_cons] at h
    cases hb : a == b with
    | true => rw [hb] at h; cases h; rw [eq_of_beq hb]; exact .head _
    | false => rw [hb] at h; exact .tail _ (mem_lk h)
theorem noLists_ok {K : PySem.W.Frag} (h : noLists K = true) {a : Addr} {o : Obj} (e : K.lookup a = some o) (c : o.cls = .type "list") : False := by
  have h2 := List.all_eq_true.mp h (a, o) (mem_lk e)
  simp only at h2
  rw [c] at h2
  exact absurd h2 (by decide)
/-- the law's answer -/
def Yes (r : R W) : Prop := ∃ s, r = .ok (.bl true) s
theorem yes_of {G : GE} {F : Hh → List W → R W} {H : Hp} {a : Addr} {o : Obj} {ns : List Int} (h : Yes (F [.frz ns] [.ref 0])) (e : H a = some (.frz o (.lst (ns.map V.int)))) (E : XK) : spI G F [.ref a] H (fun v _ => v = .bl true) E := by
  refine ⟨[a], [.frz ns], [.ref 0], .cons (.ref rfl) .nil, ⟨rfl, by simp, fun n ob hn => ?_⟩, ?_⟩
  · unfold rd at hn
    cases n with
    | zero =>
      simp [lookN] at hn
      subst hn
      exact ⟨a, _, rfl, e, .frz⟩
    | succ n => simp at hn
  · obtain ⟨s, hs⟩ := h
    rw [hs]
    intro ρ' H' v _ _ rv
    cases rv
    rfl
/-- what the law's def is, over every base -/
def FLaw (G : GE) (P : Program) (w : World) (K : PySem.W.Frag) (mg : Str → Option Value) (k : Nat) (fa : Addr) (x : Str) (Fm : Hh → List W → R W) : Prop :=
  ∃ fd : FuncData, (∀ (s : Shared) (u : Value), BindsTo s fd ⟨[u], []⟩ [(x, u)]) ∧ ∀ base : Heap, K.In base → base.Ns mainGlobals mg → FnG P w K mg base k fa fd [x] (spI G Fm)
theorem law_run {G : GE} {P : Program} {w : World} {K : PySem.W.Frag} {mg mb : Str → Option Value} {k : Nat} {fa a : Addr} {x : Str} {Fm : Hh → List W → R W} {s₁ : Shared} {vs : List Value} {ns : List Int}
    (KX : K.In s₁.heap) (nl : noLists K = true) (hns : s₁.heap.Ns mainGlobals mg) (hb : s₁.heap.Ns builtinsNs mb) (hbb : ∀ x : Str, x ≠ "__name__" → mb x = bootBuiltins x) (hlim : s₁.heap.NoLimit) (hg : s₁.gens = #[])
    (ha : s₁.heap.get? a = some { cls := .type "list", data := .seq vs.toArray }) (hi : IntsAre vs ns) (hl : ns.length ≤ sizeLine) (hr : Room k callerA) (F : FLaw G P w K mg k fa x Fm) (yes : Yes (Fm [.frz ns] [.ref 0])) :
    codeAny (model P w) callerA (.call (.ref fa) ⟨[.ref a], []⟩) (fun r s' => r = .ok (.ret (.bool true)) ∧ OldK s₁.heap s'.heap ∧ s'.os = s₁.os ∧ AllBare s'.gens) s₁ := by
  obtain ⟨fd, bnd, F⟩ := F
  obtain ⟨H, eH⟩ : ∃ H : Hp, H = fun b => if b = a then some (.frz { cls := .type "list", data := .seq vs.toArray } (.lst (ns.map V.int))) else none := ⟨_, rfl⟩
  have Ha : H a = some (.frz { cls := .type "list", data := .seq vs.toArray } (.lst (ns.map V.int))) := by rw [eH]; exact if_pos rfl
  have Hn : ∀ {b}, b ≠ a → H b = none := fun {b} n => by rw [eH]; exact if_neg n
  have Hc : ∀ {b u}, H b = some u → b = a ∧ u = .frz { cls := .type "list", data := .seq vs.toArray } (.lst (ns.map V.int)) := fun {b u} z => by
    by_cases e : b = a
    · subst e; rw [Ha] at z; cases z; exact ⟨rfl, rfl⟩
    · rw [Hn e] at z; cases z
  have nsK : ∀ {b : Addr} {m : Str → Option Value}, s₁.heap.Ns b m → (hidT s₁.heap H).Ns b m := fun {b m} ⟨o, es, ep, e, d, r⟩ => ⟨o, es, ep, hidT_get e (Hn fun z => by
    subst z
    rw [ha] at e; cases e
    have d' : Data.seq vs.toArray _ = Data.dict es ep := d
    cases d'), d, r⟩
  have hKb : K.In (hidT s₁.heap H) := fun b o e => hidT_get (KX b o e) (Hn fun z => by
    subst z
    have e2 := KX b o e
    rw [ha] at e2
    cases e2
    exact noLists_ok nl e rfl)
  have hM : Mod K mg (hidT s₁.heap H) := ⟨hKb, nsK hns, ⟨mb, nsK hb, hbb⟩, let ⟨mc, h1, h2⟩ := hlim; ⟨mc, nsK h1, h2⟩⟩
  have hok : HOk P w H s₁.heap := fun b u z => by
    obtain ⟨rfl, rfl⟩ := Hc z
    exact ⟨ha, by rw [List.length_map]; exact hl, vs, _, vals_ints hi, ha⟩
  have e0 : Env0 P w K mg (hidT s₁.heap H) callerA [] s₁ H := ⟨rfl, hM, fun b o e => of_hidT e, Nat.le_of_eq (hidT_size _ _), trivial, fun b hb => absurd (show b ∈ ([] : List Addr) from hb) (by simp), hok, .of_eq hg⟩
  refine codeAny_mono ((F _ hKb (nsK hns)).run callerA [] s₁ H ⟨[.ref a], []⟩ [.ref a] [.ref a] _ _ hr rfl e0 (bnd s₁ (.ref a)) (.cons rfl .nil) (yes_of yes Ha (fun _ _ _ => False))) fun r s' h => ?_
  cases r with
  | error e =>
    obtain ⟨_, _, _, _, _, _, _, _, _, _, _, _, z⟩ := h
    exact z.elim
  | ok fl =>
    cases fl with
    | ret u =>
      obtain ⟨v, H', os, bare, un, hok', r', q⟩ := h
      have q' : v = .bl true := q
      subst q'
      obtain rfl : u = Value.bool true := r'
      refine ⟨rfl, OldK.of_keep fun b o e => ?_, os, bare⟩
      cases q : H b with
      | none => exact un.keep b o e q (by intro z; exact absurd (show b ∈ ([] : List Addr) from z) (by simp)) (by simp)
      | some u =>
        obtain ⟨rfl, rfl⟩ := Hc q
        obtain ⟨e2, _⟩ := hok' b _ (un.frzs b _ _ q)
        rw [ha] at e
        cases e
        exact e2
    | _ => exact False.elim h
/-- THE END: the goal that is left behind k_head, k_fill -/
theorem law_end {l : PySem.W.OpenLaw} {k : Nat} {q : Program} {loose : List Str} {XP : (Str → Option Value) → Heap → Prop} {YP : World → Heap → Prop} {d : DefRec} {K : Params → PySem.W.Frag} {x : Str} {Fm : Hh → List W → R W} (hn : l.most = some 63) (hdf : d.params.defaults = []) (hr : Room k callerA)
    (hY : ∀ (w : World) (h : Heap), YP w h → (K w.params).In h)
    (F : ∀ (w : World) (mg : Str → Option Value) (fa : Addr) (h : Heap), (K w.params).In h → h.Ns mainGlobals mg → mg d.name = some (.ref fa) → noLists (K w.params) = true ∧ ∃ G : GE, FLaw G l.prog w (K w.params) mg k fa x Fm) (yes : ∀ ns : List Int, ns.length ≤ 63 → Yes (Fm [.frz ns] [.ref 0])) :
    PySem.W.WalkO q loose XP YP l.row.toRowW d [] (fun f vs => PySem.call f vs) := by
  refine Att.attach_call hn hdf fun w s₀ s₁ mg mb fa o pm cd doc a vs ns G Y ho hd hcd hmg hobj hints hlen hg => ?_
  have KX := hY w _ Y
  obtain ⟨nl, GG, hF⟩ := F w mg fa _ KX G.T.g hmg
  exact law_run KX nl G.T.g G.T.b G.T.builtins G.T.nolimit hg hobj hints (Nat.le_trans hlen (by decide)) hr hF (yes ns hlen)
end CC
set_option Elab.async false
set_option linter.all false
set_option maxRecDepth 100000
/-! CCGen: what the printed derivations use -/
namespace CC
open PySem PySem.Spec PyProof.Rows L2

section
variable {X : Cx} {E : WX} {k : Nat}
theorem Cn.u65 (cn : Cn X E k) : X.A.units + 65 < cLine := by have := cn.room.un; omega
theorem Cn.u64 (cn : Cn X E k) : X.A.units + 64 < cLine := by have := cn.room.un; omega
theorem Cn.u1 (cn : Cn X E k) : X.A.units + 1 < cLine := by have := cn.room.un; omega
theorem Cn.u0 (cn : Cn X E k) : X.A.units < cLine := by have := cn.room.un; omega
end
section
variable {G : GE} {p : Hh} {E : WX} {X : Cx} {pos : Pos} {k : Nat} {a b c : Expr} {mr : Lo → S → R (List W)}
/-- what the law never reaches (or what has no rule): its mirror is bad -/
def eBad : Lo → S → R W := fun _ _ => .bad
def sBad : Lo → S → RS := fun _ _ => .bad
theorem se_bad {e : Expr} : SE G p E X e eBad := ⟨fun _ _ _ _ _ _ ⟨_, _, _, _, _, h⟩ => h.elim⟩
theorem ss_bad {st : Stmt} : SS G p E X st sBad := ⟨fun _ _ _ _ _ _ ⟨_, _, _, _, _, h⟩ => h.elim⟩
def sPar3 (i j n : Nat) (mr : Lo → S → R (List W)) : Lo → S → RS := fun l s => match mr l s with
  | .ok [x, y, z] s1 => .nx (((l.set i (some x)).set j (some y)).set n (some z)) s1
  | .exc c w s1 => .exc c w l s1
  | _ => .bad
theorem ss_par3 (i j n : Nat) {x y z : Str} {px py pz pt : Pos} {kt k2 pt2} (hc : X.calm = true) (hN : X.N.Nodup) (ha : SA G p E X [a, b, c] mr) (hi : X.N[i]? = some x := by rfl) (hj : X.N[j]? = some y := by rfl) (hn : X.N[n]? = some z := by rfl) (hij : i ≠ j := by decide) (hin : i ≠ n := by decide) (hjn : j ≠ n := by decide)
    (hx : X.env.scope.names.lookup x = some .local := by rfl) (hy : X.env.scope.names.lookup y = some .local := by rfl) (hz : X.env.scope.names.lookup z = some .local := by rfl)
    (hw : swappedStores [.Tuple [.Name x px, .Name y py, .Name z pz] kt pt] (.Tuple [a, b, c] k2 pt2) X.env = pure (some [x, y, z]) := by rfl)
    (hs : swapsWithSole [.Tuple [.Name x px, .Name y py, .Name z pz] kt pt] (.Tuple [a, b, c] k2 pt2) pos.line X.env = pure false := by rfl) (hh : G.hold ≠ some i := by intro z; cases z) (hh2 : G.hold ≠ some j := by intro z; cases z) (hh3 : G.hold ≠ some n := by intro z; cases z) :
    SS G p E X (.Assign [.Tuple [.Name x px, .Name y py, .Name z pz] kt pt] (.Tuple [a, b, c] k2 pt2) pos) (sPar3 i j n mr) :=
  PS_imp (ps_par3 hc hN hi hj hn hij hin hjn hx hy hz ha hw hs) fun D σ H ⟨ρ, l, s, rl, rp, h⟩ => ⟨ρ, l, s, rl, rp, by
    unfold sPar3 at h
    cases e : mr l s with
    | bad => rw [e] at h; exact h.elim
    | exc c w s1 => rw [e] at h; exact fun ρ' H' d x y z => h ρ' H' d σ x y z (rl.mono x)
    | ok ws s1 =>
      rw [e] at h
      refine fun ρ1 H1 vs x1 rp1 rv1 => ?_
      match ws, vs, rv1, h with
      | [], _, _, h => exact h.elim
      | [_], _, _, h => exact h.elim
      | [_, _], _, _, h => exact h.elim
      | [w1, w2, w3], _, .cons r1 (.cons r2 (.cons r3 .nil)), h => exact ⟨_, _, _, rfl, h ρ1 H1 _ x1 rp1 ((((rl.mono x1).set i r1 hh).set j r2 hh2).set n r3 hh3)⟩
      | _ :: _ :: _ :: _ :: _, _, _, h => exact h.elim⟩
end
section
variable {G : GE} {P : Program} {w : World} {K : PySem.W.Frag} {mg : Str → Option Value} {base : Heap} {k : Nat} {f : Addr} {Fm : Hh → List W → R W} {dws : List W}
theorem FC.mono {j : Nat} (F : FC G P w K mg base j f Fm dws) (h : j ≤ k) : FC G P w K mg base k f Fm dws := by
  obtain ⟨⟨fd, ps, dvs, ds, a, b, c, d⟩, kp⟩ := F
  exact ⟨⟨fd, ps, dvs, ds, a.mono h, b, c, d⟩, kp⟩
/-- a def of the text, behind the top -/
def KD (K : PySem.W.Frag) (x qual : Str) (st : Stmt) (f : Addr) : Prop := ∃ fd, Fun K x qual st f fd
theorem kd_mk {x qual : Str} {st : Stmt} {f : Addr} {oc : Value} {od an : Option Addr} {osl : Array (Option Value)} {kV doc pm cdv ct : Value} (l : K.lookup f = some ⟨oc, od, .func (PySem.W.fnOf x qual (defArgs st) (defBody st) (defScope st) .none kV doc pm an cdv ct), osl⟩)
    (c : PySem.W.codeIn K cdv qual = true) (k : PySem.W.keepIn K (.ref f) = true) : KD K x qual st f := ⟨_, fun_mk l c k⟩
theorem fc_mk {x qual : Str} {st : Stmt} {fd : FuncData} {ps : List Str} (F : Fun K x qual st f fd) (g : FnG P w K mg base k f fd ps (spI G Fm)) (b : Binds K fd ps []) : FC G P w K mg base k f Fm [] := ⟨⟨fd, ps, [], [], g, b, .nil, fun _ _ => .nil⟩, F.kp⟩
/-- a def with a default for its last parameter(s) -/
def KDD (K : PySem.W.Frag) (x qual : Str) (st : Stmt) (dvs : List V) (f : Addr) : Prop := ∃ fd, FunD K x qual (defArgs st) (defBody st) (defScope st) dvs [] f fd
theorem kdd_mk {x qual : Str} {st : Stmt} {f T : Addr} {oc tc : Value} {od an td : Option Addr} {osl tsl : Array (Option Value)} {kV doc pm cdv ct : Value} {its : List Value} {n : Nat} {dvs : List V} (l : K.lookup f = some ⟨oc, od, .func (PySem.W.fnOf x qual (defArgs st) (defBody st) (defScope st) (.ref T) kV doc pm an cdv ct), osl⟩)
    (c : PySem.W.codeIn K cdv qual = true) (k : PySem.W.keepIn K (.ref f) = true) (t : K.lookup T = some ⟨tc, td, .seq its.toArray n, tsl⟩) (r : Vals dvs its) (ne : dvs ≠ []) : KDD K x qual st dvs f :=
  ⟨_, ⟨⟨oc, od, .ref T, kV, doc, pm, an, cdv, ct, osl, rfl, l, c, .inr ⟨ne, T, _, its, n, rfl, t, rfl, r⟩, .inl rfl⟩, k⟩⟩
theorem fcd_mk {x qual : Str} {st : Stmt} {fd : FuncData} {ps : List Str} {dvs : List V} {dws : List W} {j : Nat} (F : FunD K x qual (defArgs st) (defBody st) (defScope st) dvs [] f fd) (g : FnG P w K mg base k f fd ps (spI G Fm)) (b : ∃ ds, Vals (dvs.drop j) ds ∧ Binds K fd ps ds) (r : ∀ ρ H, RVs G ρ H dws (dvs.drop j)) : FC G P w K mg base k f Fm dws := by
  obtain ⟨ds, h1, h2⟩ := b
  exact ⟨⟨fd, ps, _, ds, g, h2, h1, r⟩, F.kp⟩
end
section
variable {X : Cx} {K : PySem.W.Frag}
theorem ctg_1 {i : Nat} {x : Str} {pos : Pos} (hc : X.calm = true) (hN : X.N.Nodup) (hi : X.N[i]? = some x := by rfl) (hx : Loc X.env.scope x := by first | exact .inl rfl | exact .inr rfl) (hf : X.fn x = true ∨ X.env.scope.names.lookup x = some .local := by first | exact .inr rfl | exact .inl rfl) : PG X (.Name x pos) ((CTg.nm i).tg X.K) := pg_name hN hi hx hf
theorem ctg_2 {i j : Nat} {x y : Str} {px py pos : Pos} {kk : Nat} (hc : X.calm = true) (hN : X.N.Nodup) (hi : X.N[i]? = some x := by rfl) (hx : Loc X.env.scope x := by first | exact .inl rfl | exact .inr rfl) (hf : X.fn x = true ∨ X.env.scope.names.lookup x = some .local := by first | exact .inr rfl | exact .inl rfl)
    (hj : X.N[j]? = some y := by rfl) (hy : Loc X.env.scope y := by first | exact .inl rfl | exact .inr rfl) (hg : X.fn y = true ∨ X.env.scope.names.lookup y = some .local := by first | exact .inr rfl | exact .inl rfl)
    (hs : (assignEach (.Name x px :: [.Name y py]) X.env).map (·.2) = assign (.Name x px) X.env :: (assignEach [.Name y py] X.env).map (·.2) := by rfl) (hs2 : (assignEach (.Name y py :: []) X.env).map (·.2) = assign (.Name y py) X.env :: (assignEach [] X.env).map (·.2) := by rfl) (hn : (assignEach [.Name x px, .Name y py] X.env).length = 2 := by rfl) (hst : (assignEach [.Name x px, .Name y py] X.env).findIdx? (·.1) = none := by rfl) :
    PG X (.Tuple [.Name x px, .Name y py] kk pos) ((CTg.pr i j).tg X.K) := pg_tup hc (pgs_cons (pg_name hN hi hx hf) (pgs_cons (pg_name hN hj hy hg) pgs_nil hs2) hs) hn hst
theorem ctg_3 {i j n : Nat} {x y z : Str} {px py pz pos : Pos} {kk : Nat} (hc : X.calm = true) (hN : X.N.Nodup) (hi : X.N[i]? = some x := by rfl) (hx : Loc X.env.scope x := by first | exact .inl rfl | exact .inr rfl) (hf : X.fn x = true ∨ X.env.scope.names.lookup x = some .local := by first | exact .inr rfl | exact .inl rfl)
    (hj : X.N[j]? = some y := by rfl) (hy : Loc X.env.scope y := by first | exact .inl rfl | exact .inr rfl) (hg : X.fn y = true ∨ X.env.scope.names.lookup y = some .local := by first | exact .inr rfl | exact .inl rfl)
    (hk : X.N[n]? = some z := by rfl) (hz : Loc X.env.scope z := by first | exact .inl rfl | exact .inr rfl) (hh : X.fn z = true ∨ X.env.scope.names.lookup z = some .local := by first | exact .inr rfl | exact .inl rfl)
    (hs : (assignEach (.Name x px :: [.Name y py, .Name z pz]) X.env).map (·.2) = assign (.Name x px) X.env :: (assignEach [.Name y py, .Name z pz] X.env).map (·.2) := by rfl) (hs2 : (assignEach (.Name y py :: [.Name z pz]) X.env).map (·.2) = assign (.Name y py) X.env :: (assignEach [.Name z pz] X.env).map (·.2) := by rfl)
    (hs3 : (assignEach (.Name z pz :: []) X.env).map (·.2) = assign (.Name z pz) X.env :: (assignEach [] X.env).map (·.2) := by rfl) (hn : (assignEach [.Name x px, .Name y py, .Name z pz] X.env).length = 3 := by rfl) (hst : (assignEach [.Name x px, .Name y py, .Name z pz] X.env).findIdx? (·.1) = none := by rfl) :
    PG X (.Tuple [.Name x px, .Name y py, .Name z pz] kk pos) ((CTg.tr i j n).tg X.K) := pg_tup hc (pgs_cons (pg_name hN hi hx hf) (pgs_cons (pg_name hN hj hy hg) (pgs_cons (pg_name hN hk hz hh) pgs_nil hs3) hs2) hs) hn hst
end
def blkB (N : List Str) (sc scope : Scope) (own : List (Str × Nat)) : Bool :=
  decide (scope.kind = .function) && scope.names.all (fun y => decide (scope.names.lookup y.1 = some y.2)) && own.all (fun p => decide (N[p.2]? = some p.1)) &&
  scope.names.all (fun y => !decide (y.2 = .free) || (decide (sc.names.lookup y.1 = some .cell) || decide (sc.names.lookup y.1 = some .free))) &&
  scope.names.all (fun y => !(decide (y.2 = .local) || decide (y.2 = .cell)) || ((own.map (·.1)).contains y.1 || !N.contains y.1))
theorem blk_ok {N : List Str} {sc scope : Scope} {own : List (Str × Nat)} (h : blkB N sc scope own = true) : BlkOk N sc scope own := by
  unfold blkB at h
  simp only [Bool.and_eq_true, List.all_eq_true, decide_eq_true_eq, Bool.or_eq_true, Bool.not_eq_true', decide_eq_false_iff_not, List.contains_iff_mem] at h
  obtain ⟨⟨⟨⟨h1, h2⟩, h3⟩, h4⟩, h5⟩ := h
  refine ⟨h1, h2, h3, fun y hy e => (h4 y hy).resolve_left (fun n => n e), fun y hy e => ?_⟩
  rcases h5 y hy with h | h | h
  · exact absurd e (by
      intro z
      rcases z with z | z <;> simp [z] at h)
  · exact .inl h
  · exact .inr (by simpa using h)
theorem se_gint {G : GE} {p : Hh} {E : WX} {X : Cx} {x : Str} {i : Int} {t : Tok} {pos : Pos} (hm : X.mg x = some (.int i t)) (hg : Gl X x := by rfl) (hd : (x == ("__debug__" : Str)) = false := by decide) : SE G p E X (.Name x pos) (eC (.int i)) :=
  se_of (pe_glob hg hm (v := .int i) ⟨t, rfl⟩ hd) fun _ _ => .int i
end CC
set_option Elab.async false
set_option linter.all false
set_option maxRecDepth 100000
/-! CCOwn: == by an own __eq__ -/
namespace CC
open PySem PySem.Spec PyProof.Rows L2

def gEqO (c : Nat) (Fm : Hh → List W → R W) (p : Hh) (x y : W) (s : S) : O2 := match isC p s c x with
  | false => gEq p x y s
  | true => (match isC p s c y with
    | false => none
    | true => (match callF Fm p [x, y] s with
      | .ok (.bl b) s' => some (.bl b, s')
      | _ => none))
section
variable {G : GE} {X : Cx} {k c : Nat} {f : Addr} {Fm : Hh → List W → R W} {E : WX}
theorem i_eqO (FF : FC G X.prog X.w X.K X.mg X.base k f Fm []) (cn : Cn X E k) (hs : PySem.W.findIn X.K (.ref (G.cls c)) "__eq__" = some (some (.ref f))) (hf : PySem.W.isFn X.K (.ref f) = true) : OpI G X (compareOp .Eq) (gEqO c Fm) := by
  intro p pins s σ H v u v' u' Q I rv ru ⟨ρ, s0, x, y, rp, r1, r2, q⟩
  unfold gEqO at q
  cases e1 : isC p s0 c x with
  | false => rw [e1] at q; exact i_eq cn.u64 p pins s σ H v u v' u' Q I rv ru ⟨ρ, s0, x, y, rp, r1, r2, q⟩
  | true =>
    rw [e1] at q
    cases e2 : isC p s0 c y with
    | false => rw [e2] at q; exact q.elim
    | true =>
      rw [e2] at q
      dsimp only at q
      obtain ⟨a, dx, gs, rfl, ha, _⟩ := obj_at rp r1 e1
      obtain ⟨b, dy, gs', rfl, hb, _⟩ := obj_at rp r2 e2
      cases rv
      cases ru
      obtain ⟨mA, J, _⟩ := ins_get I.hok ha
      obtain ⟨mB, J', _⟩ := ins_get I.hok hb
      obtain ⟨od, J, _⟩ := J.look
      obtain ⟨od', J', _⟩ := J'.look
      obtain ⟨m, hF⟩ := I.fr
      show wpAny (model X.prog X.w) X.A (richCompare .Eq (.ref a) (.ref b)) (EP X pins σ Q) X.xe s
      refine PySem.W.cmp_K (op := .Eq) (tb := .ref (G.cls c)) cn.u0 hF I.ok.mod.kin J J'.type (by simp [PySem.W.notFirst]) hs hf ?_
      obtain ⟨fd, ps, dvs, ds, F, bnd, hd, rdf⟩ := FF.ex
      have rdn := rdf ρ H
      cases rdn
      cases hd
      have go := run_fnG (Q := fun v H' => ∃ b, v = .bl b ∧ Q v H') (us := [.ref a, .ref b]) (vs := [.ref a, .ref b]) (dvs := []) (ds := []) (E := fun _ => fun _ _ _ => False) F cn.room cn.gd bnd .nil (fun pins H s e s' I z => ?_) I (.cons rfl (.cons rfl .nil)) (sp_of (.cons r1 (.cons r2 .nil)) rp ?_)
      · refine wpAny_mono go (fun v s' z => ?_) fun _ _ z => z
        obtain ⟨_, H', I', rv, b, rfl, hq⟩ := z
        obtain rfl : v = Value.bool b := rv
        exact ⟨.bl b, H', I', rfl, hq⟩
      · obtain ⟨_, _, _, _, _, _, _, _, _, _, _, _, z⟩ := z
        exact z.elim
      · cases e3 : callF Fm p [x, y] s0 with
        | ok w s' =>
          rw [e3] at q
          cases w with
          | bl b =>
            intro ρ' H' v' y' rp' rv'
            cases rv'
            exact ⟨b, rfl, q ρ' H' _ y' rp' (.bl b)⟩
          | _ => exact q.elim
        | exc _ _ _ => rw [e3] at q; exact q.elim
        | bad => rw [e3] at q; exact q.elim
end
/-- isinstance of an own class -/
theorem qi_own {G : GE} {K : PySem.W.Frag} {C : Addr} {ow : List (Nat × Bool)} (h0 : PySem.W.kitOne K (.type "NoneType") (.ref C) = some false) (h1 : PySem.W.kitOne K (.type "bool") (.ref C) = some false) (h2 : PySem.W.kitOne K (.type "int") (.ref C) = some false) (h3 : PySem.W.kitOne K (.type "str") (.ref C) = some false) (h4 : PySem.W.kitOne K (.type "list") (.ref C) = some false) (h5 : PySem.W.kitOne K (.type "tuple") (.ref C) = some false) (h6 : PySem.W.kitOne K (.type "dict") (.ref C) = some false)
    (h : ∀ c b, lkB c ow = some b → CI_ G K c ∧ PySem.W.kitOne K (.ref (G.cls c)) (.ref C) = some b) : QI G K (.ref C) (qOwn ow) where
  an := fun t b e => by
    cases t with
    | non => cases e; exact h0
    | bl => cases e; exact h1
    | int => cases e; exact h2
    | str => cases e; exact h3
    | lst => cases e; exact h4
    | tup => cases e; exact h5
    | dct => cases e; exact h6
    | own c => exact (h c b e).2
  ow := fun c b e => (h c b e).1
theorem lk_one {c d : Nat} {a b : Bool} (h : lkB c [(d, a)] = some b) : c = d ∧ b = a := by
  simp only [lkB] at h
  by_cases e : c = d
  · rw [if_pos e] at h; cases h; exact ⟨e, rfl⟩
  · rw [if_neg e] at h; cases h
end CC
set_option Elab.async false
set_option linter.all false
set_option maxRecDepth 100000
set_option maxHeartbeats 2000000
/-! CCTry: several clauses 'except X as e' -/
namespace CC
open PySem PySem.Spec PyProof.Rows L2

/-- one clause: its class, the slot of its name, its suite's reading -/
structure Cls1 where
  c : Value
  i : Option Nat
  ts : Addr → Value → Option Addr → TS
/-- behind a suite its name is gone -/
def gone (i : Nat) (D : Ends) : Ends := { nx := fun σ H => D.nx (σ.set i none) H, rt := D.rt, bk := fun σ H => D.bk (σ.set i none) H, ct := fun σ H => D.ct (σ.set i none) H }
def runC (q : Cls1) (a : Addr) (cls : Value) (d : Option Addr) (D : Ends) (σ : L2.St) (H : Hp) : Prop := match q.i with
  | none => q.ts a cls d D σ H
  | some i => q.ts a cls d (gone i D) (σ.set i (some (.ref a))) H
def wAll (K : PySem.W.Frag) (Wo : WX) (D : Ends) : List Cls1 → WX
  | [] => Wo
  | q :: r => fun cls d σ H => ∃ b, PySem.W.exmOne K cls q.c = some b ∧ (b = true → ∀ a, H a = none → runC q a cls d D σ H) ∧ (b = false → wAll K Wo D r cls d σ H)
inductive HdN (X : Cx) : List ExceptHandler → List Cls1 → Prop
  | nil : HdN X [] []
  | bare {x : Str} {c : Value} {ts : Addr → Value → Option Addr → TS} {b0 : Stmt} {su : List Stmt} {np pp : Pos} {hs : List ExceptHandler} {l : List Cls1} (hc : Names X x c)
      (hsu : ∀ (a : Addr) (oe : Obj) (cls : Value) (d : Option Addr) (pn : List (Addr × Obj)), Zc cls d oe → (∃ vs, oe.data = .fields vs) → PSs (X.suite a ((a, oe) :: pn)) (b0 :: su) (ts a cls d)) (r : HdN X hs l) : HdN X (.ExceptHandler (some (.Name x np)) none (b0 :: su) pp :: hs) (⟨c, none, ts⟩ :: l)
  | named {x n : Str} {i : Nat} {c : Value} {ts : Addr → Value → Option Addr → TS} {b0 : Stmt} {su : List Stmt} {np pp : Pos} {hs : List ExceptHandler} {l : List Cls1} (hc : Names X x c) (hi : X.N[i]? = some n) (hk : X.env.kindOf n = some .local)
      (hsu : ∀ (a : Addr) (oe : Obj) (cls : Value) (d : Option Addr) (pn : List (Addr × Obj)), Zc cls d oe → (∃ vs, oe.data = .fields vs) → PSs (X.suite a ((a, oe) :: pn)) (b0 :: su) (ts a cls d)) (r : HdN X hs l) : HdN X (.ExceptHandler (some (.Name x np)) (some n) (b0 :: su) pp :: hs) (⟨c, some i, ts⟩ :: l)
section
variable {X : Cx} {body : List Stmt} {h0 : ExceptHandler} {hds : List ExceptHandler} {l : List Cls1} {pos : Pos} {tb : WX → TS} {Wo : WX}
theorem ps_tryN (hN : X.N.Nodup) (hs : X.stack = X.env :: X.outer) (hf : X.env.frame = some X.env.locals) (tk : Takes X Wo)
    (hb : ∀ (W : WX) (pn : List (Addr × Obj)) (xe : Value → Shared → Prop), Takes (X.tr pn xe) W → PassesOwn (model X.prog X.w) X.A X.env xe → PSs (X.tr pn xe) body (tb W)) (hh : HdN X (h0 :: hds) l) :
    PS X (.Try body (h0 :: hds) [] [] pos) (fun D σ H => tb (wAll X.K Wo D l) D σ H) := by
  refine ⟨fun pins s σ H D I h => wpAny_Try_except ?_⟩
  have ok := I.ok
  have frm : X.A.frames = some (X.env :: X.outer) := by rw [ok.frames, hs]
  let catch_ : Value → Shared → Prop := fun e s₁ => wpAny (model X.prog X.w) X.A (noteFrame e X.env) (fun _ s₂ => wpAny (model X.prog X.w) X.A (setFlight e none) (fun _ s₃ => wpAny (model X.prog X.w) X.A (handleBy e X.env (h0 :: hds)) (SP X pins D) X.xe s₃) X.xe s₂) X.xe s₁
  have tk2 : Takes (X.tr (X.pn ++ pins) catch_) (wAll X.K Wo D l) := fun u s' xx => by
    obtain ⟨a, B, sI, pins', σ', H', cls, d, rfl, J', nb, up, sky, na, os, ag, w⟩ := xx
    have J : Inv X pins σ' H' sI := J'.ofTry ok
    have sk : Sky B (X.env :: X.outer) a (Zc cls d) X.env.locals s'.heap := by rw [← hs]; exact sky
    show wpAny (model X.prog X.w) X.A (noteFrame (.ref a) X.env) _ _ _
    refine Sky.land Zc.steady frm hf sk fun h3 fl3 up3 => ?_
    have J3 : Inv X pins σ' H' { s' with heap := h3 } := J.landed nb fl3.1 (up.trans up3) os ag
    obtain ⟨o3, v3, g3, z3, d3⟩ := fl3.there
    have nfr : a ∉ frs (X.env :: X.outer) := fun hm => by
      obtain ⟨_, o', e', hnf⟩ := fl3.2.2.1.mem hm
      rw [g3] at e'; cases e'
      exact hnf _ d3
    have nL : a ≠ X.env.locals := fun z => nfr (List.mem_filterMap.mpr ⟨X.env, List.mem_cons_self, by rw [hf, z]⟩)
    have nF : a ∉ X.fs := fun hm => by
      obtain ⟨e, he, q⟩ := List.mem_filterMap.mp hm
      exact nfr (List.mem_filterMap.mpr ⟨e, List.mem_cons_of_mem _ he, q⟩)
    have S3 := J3.suite g3 d3 na nL nF
    have LT : PySem.W.Looks (model X.prog X.w) h3 (typeOf (.ref a)) cls := fun A Q E s k q => wpAny_typeOf_ref (k _ _ g3) (by rw [z3.1]; exact q)
    have test : ∀ {x : Str} {c : Value} {np : Pos} {Q E : Value → Shared → Prop}, Names X x c → Q c { s' with heap := h3 } → wpAny (model X.prog X.w) (X.A.mark (some (.ref a))) (eval (.Name x np) X.env) Q E { s' with heap := h3 } := fun {x c np Q E} hc q => by
      obtain ⟨hg, hd, hm | ⟨hm, hv, hnn⟩⟩ := hc
      · exact ld_glob (X := X.suite a ((a, o3) :: (X.pn ++ pins))) S3 hg hm q hd
      · exact ld_blt (X := X.suite a ((a, o3) :: (X.pn ++ pins))) S3 hg hm hv q hnn hd
    have go : ∀ {hds' : List ExceptHandler} {l' : List Cls1}, HdN X hds' l' → wAll X.K Wo D l' cls d σ' H' → wpAny (model X.prog X.w) X.A (handleBy (.ref a) X.env hds') (SP X pins D) X.xe { s' with heap := h3 } := by
      intro hds' l' hk
      induction hk with
      | nil =>
        intro w
        refine wpAny_handleBy_nil ?_
        obtain ⟨k1, k2, k3, oe, vs, T, oT, ts', he, hz, hd, h1, hr⟩ := id fl3
        unfold PySem.passOn
        refine wpAny_bind (wpAny_field he hd h1 ?_)
        rw [if_neg (show ¬ ((Value.ref T == Value.none) = true) from by simp)]
        have fin : wpAny (model X.prog X.w) X.A (setFlight (.ref a) X.env.frame) (fun _ s4 => wpAny (model X.prog X.w) X.A (throw (.ref a) : Sem Flow) (SP X pins D) X.xe s4) X.xe { s' with heap := h3 } := by
          rw [hf]
          exact HandSPX.setFlight_upZ fl3 fun h4 hh4 up4 => wpAny_throw (tk _ _ ⟨a, B, sI, pins, σ', H', cls, d, rfl, J, nb, (up.trans up3).trans up4, .inr (.inr (by rw [hs]; exact hh4)), na, os, ag, w⟩)
        first
          | exact wpAny_bind (wpAny_pure (wpAny_bind fin))
          | exact wpAny_bind fin
      | @bare x c ts b0 su np pp hs2 l2 hc hsu r ih =>
        intro ⟨b, hb1, hyes, hno⟩
        refine wpAny_handleBy_cons (codeAny_handlers_test (test hc ((PySem.W.exm_one (M := model X.prog X.w) J3.kIn LT hb1).here ?_))) (by intro q; cases q)
        cases b with
        | false => exact ih (hno rfl)
        | true =>
          refine codeAny_handlers_suite (HandSPX.lands_againZ fl3 fun h4 fl4 up4 => ?_)
          have J4 : Inv X pins σ' H' { s' with heap := h4 } := J.landed nb fl4.1 ((up.trans up3).trans up4) os ag
          obtain ⟨o4, v4, g4, z4, d4⟩ := fl4.there
          refine wpAny_mono ((hsu a o4 cls d (X.pn ++ pins) z4 ⟨_, d4⟩).run [] _ _ H' _ (J4.suite g4 d4 na nL nF) (hyes rfl a na)) (fun f s6 hsp => ?_) (fun _ _ z => False.elim z)
          cases f with
          | ret u => obtain ⟨v6, σ6, H6, S6, r6, q6⟩ := hsp; exact ⟨_, _, _, S6.unsuite ok, r6, q6⟩
          | next => obtain ⟨σ6, H6, S6, q6⟩ := hsp; exact ⟨_, _, S6.unsuite ok, q6⟩
          | brk => obtain ⟨σ6, H6, S6, q6⟩ := hsp; exact ⟨_, _, S6.unsuite ok, q6⟩
          | cont => obtain ⟨σ6, H6, S6, q6⟩ := hsp; exact ⟨_, _, S6.unsuite ok, q6⟩
      | @named x n i c ts b0 su np pp hs2 l2 hc hi hln hsu r ih =>
        intro ⟨b, hb1, hyes, hno⟩
        refine wpAny_handleBy_cons (codeAny_handlers_test (test hc ((PySem.W.exm_one (M := model X.prog X.w) J3.kIn LT hb1).here ?_))) (by intro q; cases q)
        cases b with
        | false => exact ih (hno rfl)
        | true =>
          refine codeAny_handlers_suite_as (HandSPX.lands_againZ fl3 fun h4 fl4 up4 => ?_)
          have J4 : Inv X pins σ' H' { s' with heap := h4 } := J.landed nb fl4.1 ((up.trans up3).trans up4) os ag
          obtain ⟨o4, v4, g4, z4, d4⟩ := fl4.there
          refine store_ok (X := X.suite a ((a, o4) :: (X.pn ++ pins))) (v := .ref a) (J4.suite g4 d4 na nL nF) hN hi (.inl hln) rfl (fun s5 S5 => ?_) (.inr hln)
          refine wpAny_mono ((hsu a o4 cls d (X.pn ++ pins) z4 ⟨_, d4⟩).run [] s5 _ H' _ S5 (hyes rfl a na)) (fun f s6 hsp => ?_) (fun _ _ z => False.elim z)
          have fini : ∀ {σ6 : L2.St} {H6 : Hp} {Q : Shared → Prop}, Inv (X.suite a ((a, o4) :: (X.pn ++ pins))) [] σ6 H6 s6 → (∀ s7, Inv X pins (σ6.set i none) H6 s7 → Q s7) →
              wpAny (model X.prog X.w) X.A (do bindName X.env n .none; unbindBehindTheSuite X.env n pp) (fun _ s7 => Q s7) X.xe s6 := fun S6 hq => gone_ok (S6.unsuite ok) hN hi hln hq
          cases f with
          | ret u => obtain ⟨v6, σ6, H6, S6, r6, q6⟩ := hsp; exact fini S6 fun s7 J7 => ⟨_, _, _, J7, r6, q6⟩
          | next => obtain ⟨σ6, H6, S6, q6⟩ := hsp; exact fini S6 fun s7 J7 => ⟨_, _, J7, q6⟩
          | brk => obtain ⟨σ6, H6, S6, q6⟩ := hsp; exact fini S6 fun s7 J7 => ⟨_, _, J7, q6⟩
          | cont => obtain ⟨σ6, H6, S6, q6⟩ := hsp; exact fini S6 fun s7 J7 => ⟨_, _, J7, q6⟩
    exact go hh w
  refine wpAny_mono ((hb (wAll X.K Wo D l) (X.pn ++ pins) catch_ tk2 PassesOwn.looking).run [] s σ H D (I.toTry _) h) (fun f s1 hsp => ?_) (fun e s1 he => he)
  cases f with
  | ret u => obtain ⟨v, σ', H', J', r, q⟩ := hsp; exact ⟨v, σ', H', J'.ofTry ok, r, q⟩
  | next => obtain ⟨σ', H', J', q⟩ := hsp; exact wpAny_execs_nil ⟨σ', H', J'.ofTry ok, q⟩
  | brk => obtain ⟨σ', H', J', q⟩ := hsp; exact ⟨σ', H', J'.ofTry ok, q⟩
  | cont => obtain ⟨σ', H', J', q⟩ := hsp; exact ⟨σ', H', J'.ofTry ok, q⟩
end
end CC
set_option Elab.async false
set_option linter.all false
set_option maxRecDepth 100000
set_option maxHeartbeats 2000000
/-! CCExc: own exceptions are made and raised -/
namespace CC
open PySem PySem.Spec PyProof.Rows L2

section
variable {X : Cx} {a0 : Expr} {es : List Expr} {ta : TA} {p1 p2 pos : Pos} {B : Str} {CB : Addr} {mc : Value}
/-- Base.__init__(self, ..), Base an own class whose __init__ is ValueError's -/
theorem pe_binit {pl : Sem Bool} (hg : Gl X B) (hm : X.mg B = some (.ref CB)) (r : ClX.CRead X.K CB mc) (k : PySem.W.findCls X.K (.ref CB) mc "__init__" = some (.val (.builtin "ValueError.__init__"))) (ha : PA X (a0 :: es) ta) (hd : (B == ("__debug__" : Str)) = false := by decide)
    (hc : eval (.Call (.Attribute (.Name B p1) "__init__" p2) (a0 :: es) [] pos) X.env = (do
      let ov ← eval (.Name B p1) X.env
      standAt p2.atName
      let (f, first) ← holding [ov] (getMethod ov "__init__" pl)
      callWith pos f first (backTo pos (starEach (a0 :: es) X.env)) (backToKw pos (keywordEach [] X.env))) := by rfl)
    (he : starEach (a0 :: es) X.env = (false, eval a0 X.env) :: starEach es X.env := by rfl) (hpl : (backTo pos (starEach es X.env)).any (·.1) = false := by rfl) : PE X (.Call (.Attribute (.Name B p1) "__init__" p2) (a0 :: es) [] pos) (tVeI X.K ta) := by
  refine ⟨fun pins s σ H Q I h => ?_⟩
  refine PySem.W.methodCall_KW (ld_glob I hg hm ?_ hd) hc
  refine PySem.W.method_cls I.kIn r.ga ?_
  refine PySem.W.cls_value I.kIn r.rd k (by decide +kernel) ?_
  show wpAny _ _ (callWith pos (Value.builtin "ValueError.__init__") [] (backTo pos (starEach (a0 :: es) X.env)) []) _ _ _
  refine PyProof.Rows.callWith_method1 (thn (ha.run pos pins _ σ H _ (I.tok _) h) fun us s1 ⟨vs, H1, I1, r1, a, C, ws, ev, hl, T, ea, q⟩ => ?_) he hpl
  subst ev
  cases r1 with
  | @cons _ u0 _ ur ra rw' =>
    obtain rfl : u0 = Value.ref a := ra
    exact oinit_ok T I1 ea (by rw [← Paired.length rw', sizeLine_eq]; omega) fun s' J => ⟨.non, H1, J, rfl, q⟩
end
/-- what an own exception's __init__ promises: its one field is the argument -/
def spX (K : PySem.W.Frag) (C : Addr) (f : Str) : Sp := fun vs H Q _ => ∃ (a : Addr) (v : V), vs = [.ref a, v] ∧ H a = some (exo a C none) ∧ ∀ dx, H dx = none → dx ≠ a → Q .non (upd (upd H dx (exd dx [(f, v)])) a (exo a C (some dx)))
section
variable {P : Program} {w : World} {K : PySem.W.Frag} {mg : Str → Option Value} {base : Heap}
theorem xinit_ok {qual : Str} {st : Stmt} {fI : Addr} {fd : FuncData} {n0 n1 : Str} {C : Addr} {f : Str} (F : Fun K "__init__" qual st fI fd) (sc : FnScope [n0, n1] [n0, n1] (defScope st)) (T : OexC K C) (hno : PySem.W.findIn K (.ref C) f = some none)
    (hb : ∀ (cdv : Value) (A : Around) (outer : List Env) (s : Shared) (H : Hp) (E : XK) (k : Nat), Cn (XOf P w K mg base [n0, n1] qual (defScope st) fI cdv A outer s H E) (fun c d _ H' => E c d H') k →
      ∃ tv t1, PSs (XOf P w K mg base [n0, n1] qual (defScope st) fI cdv A outer s H E) (defBody st) (fun D σ H => tVeI K (tCons (tVar 0) (tCons t1 tNil)) σ H fun _ H1 => tOst K f (tVar 0) tv D σ H1) ∧ tv = tVar 1 ∧ ∃ z, t1 = tC (.str z)) :
    FnG P w K mg base 1 fI fd [n0, n1] (spX K C f) := by
  obtain ⟨oc, od, kV, doc, pm, an, cdv, ct, osl, rfl, lk, hcd⟩ := F.ex
  refine fnG_of lk hcd sc (fun vs H Q E h => ?_) fun A outer s H vs Q E hr hg h => ?_
  · obtain ⟨a, v, rfl, _⟩ := h; rfl
  · obtain ⟨a, v, rfl, ha, hq⟩ := h
    obtain ⟨tv, t1, hs, rfl, z, rfl⟩ := hb cdv A outer s H E 0 (cn_of sc.nd hr hg)
    exact ⟨_, hs, .ref a, rfl, a, C, [.str z], rfl, by show 1 ≤ 1000; decide, T, ha, v, rfl, .ref a, rfl, a, C, rfl, T, hno, .inl ⟨ha, fun dx n ne => hq dx n ne⟩⟩
end
section
variable {X : Cx} {x : Str} {e : Expr} {es : List Expr} {ta : TA} {p pos : Pos}
theorem pmk_G {C fI : Addr} {k : Nat} {fd : FuncData} {ps : List Str} {sp : Sp} {ds : List Value} {dvs : List V} (T : OexC X.K C) (iC : PySem.W.findIn X.K (.ref C) "__init__" = some (some (.ref fI))) (tI : PySem.W.typeIn X.K (.ref fI) = some (.type "function"))
    (F1 : FnG X.prog X.w X.K X.mg X.base k fI fd ps sp) (hr : Room (k + 1) X.A) (hgd : X.A.guards = some []) (hb : Binds X.K fd ps ds) (hd : Vals dvs ds) (hg : Gl X x) (hm : X.mg x = some (.ref C)) (ha : PA X (e :: es) ta)
    (hdb : (x == ("__debug__" : Str)) = false := by decide) (he : starEach (e :: es) X.env = (false, eval e X.env) :: starEach es X.env := by rfl) (hpl : (backTo pos (starEach es X.env)).any (·.1) = false := by rfl) : PMk X (.Call (.Name x p) (e :: es) [] pos) (tMkO C sp dvs ta) := by
  intro pins s σ H Q I h
  obtain ⟨nm, q, N, bs, bm, sn, sub, ab, col, dd, k0, k1, k2, k3, k5, hC, hbm⟩ := T.cls
  refine wpAny_Call_Name_kw (ld_glob I hg hm ?_ hdb)
  refine PySem.W.callWith_K (h₀ := X.base) I.ok.mod.kin T.kC (thn (ha.run pos pins s σ H _ I h) fun us s1 ⟨vs, H1, I1, r1, hz, q1⟩ => ⟨I1.kIn, ?_⟩) he hpl
  show wpAny _ _ (call (.ref C) us) _ _ _
  obtain ⟨hp, g, dr, tk, os⟩ := s1
  have le1 : hp.objs.size ≤ hp.objs.size + 1 := Nat.le_succ _
  have hq := q1 (hp.objs.size + 1) (I1.hok.fresh le1)
  have kk : ∀ b o, hp.get? b = some o → ((hp.push (PySem.W.kdv_tup us)).push (PySem.HandSPX.excO C hp.objs.size)).get? b = some o := fun b o e => Heap.get?_push_of_some _ (Heap.get?_push_of_some _ e)
  have I2 : Inv X pins σ (upd H1 (hp.objs.size + 1) (exo (hp.objs.size + 1) C none)) ⟨(hp.push (PySem.W.kdv_tup us)).push (PySem.HandSPX.excO C hp.objs.size), g, dr, tk, os⟩ := I1.laid (t' := tk) kk le1 (exo_ok (by heap_get))
  have r2 : Vals (V.ref (hp.objs.size + 1) :: (vs ++ dvs)) (Value.ref (hp.objs.size + 1) :: (us ++ ds)) := .cons rfl (r1.append hd)
  have hl : (Value.ref (hp.objs.size + 1) :: us ++ ds).length = ps.length := by rw [← F1.len _ _ _ _ hq]; exact r2.length.symm
  have hus : us.length ≤ sizeLine := by rw [← Paired.length r1, sizeLine_eq]; omega
  refine wpAny_call (PySem.HandSPX.call_own F.excBase_ValueError (fun Y => PySem.HandSPX.refsVE_contains Y bm hbm) (I1.kIn _ _ hC) (PySem.W.looks_findIn I1.kIn iC) (fun self => PySem.W.bind_fn I1.kIn self tI) hus
    (codeAny_mono (F1.run _ X.stack _ _ ⟨Value.ref (hp.objs.size + 1) :: us, []⟩ (Value.ref (hp.objs.size + 1) :: (us ++ ds)) _ _ (fun _ _ _ => False) (hr.make C us []) (by rw [under_guards]; exact hgd) (I2.env0.make C us []) (hb _ (Value.ref (hp.objs.size + 1) :: us) I2.kIn hl) r2 hq) fun r s' hq' => ?_))
  cases r with
  | error er =>
    obtain ⟨_, _, _, _, _, _, _, _, _, _, _, _, z⟩ := hq'
    exact z.elim
  | ok fl =>
    cases fl with
    | ret u =>
      obtain ⟨v, H2, os2, bare2, un2, hok2, rv, ev, d, fs, ea, ed, hd1, q2⟩ := hq'
      subst ev
      obtain ⟨h2, g2, d2, t2, os'⟩ := s'
      exact ⟨rv, mk_end (raises_own T.exC T.tyC) I1 le1 kk un2 hok2 os2 bare2 ea ed hd1 q2⟩
    | _ => exact False.elim hq'
end
/-- an own exception class that may be raised: c its number, one field -/
structure XC (G : GE) (P : Program) (w : World) (K : PySem.W.Frag) (mg : Str → Option Value) (base : Heap) (c : Nat) (x : Str) (f : Str) : Prop where
  T : OexC K (G.cls c)
  fl : G.fld c = [f]
  nm : mg x = some (.ref (G.cls c))
  ini : ∃ (fI : Addr) (fd : FuncData) (ps : List Str), PySem.W.findIn K (.ref (G.cls c)) "__init__" = some (some (.ref fI)) ∧ PySem.W.typeIn K (.ref fI) = some (.type "function") ∧ FnG P w K mg base 1 fI fd ps (spX K (G.cls c) f) ∧ Binds K fd ps []
def sRaise (c : Nat) (ma : Lo → S → R W) : Lo → S → RS := fun l s => (ma l s).toS l fun w s1 => .exc c w l s1
section
variable {G : GE} {p : Hh} {E : WX} {X : Cx} {k c : Nat} {x f : Str} {a : Expr} {ma : Lo → S → R W} {p' pos pos' : Pos}
theorem ss_raise (F : XC G X.prog X.w X.K X.mg X.base c x f) (cn : Cn X E k) (h2 : 2 ≤ k) (ha : SE G p E X a ma) (hg : Gl X x := by rfl) (hdb : (x == ("__debug__" : Str)) = false := by decide) (he : starEach (a :: []) X.env = (false, eval a X.env) :: starEach [] X.env := by rfl)
    (hpl : (backTo pos (starEach [] X.env)).any (·.1) = false := by rfl) : SS G p E X (.Raise (some (.Call (.Name x p') [a] [] pos)) none pos') (sRaise c ma) := by
  obtain ⟨fI, fd, ps, i1, i2, g, b⟩ := F.ini
  refine PS_imp (ps_raise cn.calm cn.tk (pmk_G F.T i1 i2 g (cn.room.mono h2) cn.gd b .nil hg F.nm (pa1 ha he) hdb he hpl)) fun D σ H ⟨ρ, l, s, rl, rp, h⟩ => ?_
  unfold sRaise at h
  refine ⟨ρ, l, s, rl, rp, PoS.val rl h fun w s1 ρ1 H1 v x1 rp1 rv1 h1 => ⟨by show 1 ≤ 1000; decide, fun q hq => ?_⟩⟩
  refine ⟨q, v, rfl, upd_same, fun dx hdx ne => ⟨rfl, dx, [(f, v)], upd_same, by rw [upd_ne ne, upd_same], ?_, ?_⟩⟩
  · rw [upd_ne ne] at hdx; exact hdx
  · have hdx1 : H1 dx = none := by rw [upd_ne ne] at hdx; exact hdx
    have eH : upd (del (upd (upd (upd H1 q (exo q (G.cls c) none)) dx (exd dx [(f, v)])) q (exo q (G.cls c) (some dx))) q) dx (.xd [(f, v)]) = upd H1 dx (.xd [(f, v)]) := by
      funext b
      by_cases hb : b = dx
      · rw [hb, upd_same, upd_same]
      · rw [upd_ne hb, upd_ne hb]
        by_cases hq2 : b = q
        · rw [hq2, del_same, hq]
        · rw [del_ne hq2, upd_ne hq2, upd_ne hb, upd_ne hq2]
    rw [eH]
    have xx := Ex.fresh (u := .xd [(f, v)]) rp1 hdx1
    refine h1 ρ1 _ (some dx) σ xx (rp1.fresh hdx1) ?_ ((rl.mono x1).mono xx)
    unfold RX
    rw [F.fl]
    exact ⟨dx, v, rfl, rp1.ref_none hdx1, upd_same, rv1.mono xx⟩
end
end CC
set_option Elab.async false
set_option linter.all false
set_option maxRecDepth 100000
set_option maxHeartbeats 4000000
/-! CCExcB: own exceptions over other built-in classes -/
namespace CC
open PySem PySem.Spec PyProof.Rows L2
open PySem.HandSPX

structure BEx (B newId initId : String) (tl : List Value) : Prop where
  F : ExcBaseFacts B newId initId tl
  pass : ∀ self, PySem.refuseLoop self "__setattr__" tl = pure ()
  obj : tl.contains (.type "object") = true
  hd : ∃ t r, tl = .type t :: r
def refsB (tl : List Value) : List Value → Bool
  | .ref _ :: r => refsB tl r
  | l => l == tl
section
variable {tl : List Value}
theorem refsB_cases : ∀ l : List Value, refsB tl l = true → (∃ c r, l = .ref c :: r ∧ refsB tl r = true) ∨ l = tl
  | [], e => .inr (beq_iff_eq.mp e)
  | .ref c :: r, e => .inl ⟨c, r, rfl, e⟩
  | .none :: _, e => .inr (beq_iff_eq.mp e)
  | .ellipsis :: _, e => .inr (beq_iff_eq.mp e)
  | .notImplemented :: _, e => .inr (beq_iff_eq.mp e)
  | .bool _ :: _, e => .inr (beq_iff_eq.mp e)
  | .int _ _ :: _, e => .inr (beq_iff_eq.mp e)
  | .float _ _ :: _, e => .inr (beq_iff_eq.mp e)
  | .str _ _ :: _, e => .inr (beq_iff_eq.mp e)
  | .bytes _ _ :: _, e => .inr (beq_iff_eq.mp e)
  | .type _ :: _, e => .inr (beq_iff_eq.mp e)
  | .builtin _ :: _, e => .inr (beq_iff_eq.mp e)
variable {B newId initId : String} (X : BEx B newId initId tl)
include X
theorem BEx.ne0 : refsB tl [] ≠ true := fun e => by
  obtain ⟨t, r, h⟩ := X.hd
  have : [] = tl := beq_iff_eq.mp e
  rw [h] at this
  cases this
theorem refsB_pass (self : Value) : ∀ l : List Value, refsB tl l = true → PySem.refuseLoop self "__setattr__" l = pure () := by
  intro l
  induction l with
  | nil => intro e; exact absurd e X.ne0
  | cons a r ih =>
    intro e
    rcases refsB_cases (a :: r) e with ⟨c, r', q, h⟩ | q
    · obtain ⟨rfl, rfl⟩ := List.cons.inj q
      rw [PySem.refuseLoop_ref]; exact ih h
    · rw [q]; exact X.pass self
theorem refsB_contains (Y : String) : ∀ l : List Value, refsB tl l = true → l.contains (.type Y) = tl.contains (.type Y) := by
  intro l
  induction l with
  | nil => intro e; exact absurd e X.ne0
  | cons a r ih =>
    intro e
    rcases refsB_cases (a :: r) e with ⟨c, r', q, h⟩ | q
    · obtain ⟨rfl, rfl⟩ := List.cons.inj q
      rw [List.contains_cons, ih h]; rfl
    · rw [q]
theorem refsB_ne {l : List Value} (e : refsB tl l = true) : l.isEmpty = false := by
  cases l with
  | nil => exact absurd e X.ne0
  | cons _ _ => rfl
end
section
open Builtin Builtin.ObjectAttr
variable {tl : List Value} {B newId initId : String} (Y : BEx B newId initId tl)
include Y
variable {prog : Program} {w : World} {A : Around} {E : Value → Shared → Prop} {R : Result → Shared → Prop} {hp : Heap} {g : Array GenState} {d : Drawn} {t : Nat} {os : OsState}
theorem osa_B {K : PySem.W.Frag} {name : Str} {tk : Tok} {v : Value} {x C : Addr} {fv : Array Value} {cd : ClassData}
    (X : K.In hp) (hx : hp.get? x = some { cls := .ref C, data := .fields fv }) (hcd : PySem.W.clsIn K C = some cd) (hm : refsB tl cd.mro = true) (hh : cd.hasDict = true) (ha : PySem.W.findIn K (.ref C) name = some none)
    (hq : ∀ h' tk' dx, (∀ b o, b ≠ x → hp.get? b = some o → h'.get? b = some o) → hp.objs.size ≤ dx → dx ≠ x → h'.get? x = some { cls := .ref C, dict := some dx, data := .fields fv } →
      h'.Ns1 dx (fun y => if y = name then some v else none) → R (.ok (.ret .none)) ⟨h', g, d, tk', os⟩) :
    codeAny (model prog w) A (.call (.builtin "object.__setattr__") ⟨[.ref x, .str name tk, v], []⟩) R ⟨hp, g, d, t, os⟩ := by
  have I : PySem.W.InstAt hp x { cls := .ref C, data := .fields fv } C none := ⟨hx, rfl, rfl, trivial⟩
  have SF := F.store_object
  have ne := refsB_ne Y hm
  have hob : cd.mro.contains (.type "object") = true := (refsB_contains Y "object" _ hm).trans Y.obj
  have hxs : x ≠ hp.objs.size := Nat.ne_of_lt (Heap.lt_size hx)
  have sub : PySem.W.Looks (model prog w) hp (isInstance (.ref x) (.type "object")) true := I.type.andThen (PySem.W.looks_mroIn X (by unfold PySem.W.mroIn; rw [hcd, Option.bind_some, if_neg (by rw [ne]; decide), hob]))
  refine codeAny_call_builtin SF.slot.plain SF.entry (@PySem.W.check_slot (model prog w) _ _ ⟨hp, g, d, t, os⟩ "object.__setattr__" "object" "__setattr__" (.ref x) [.str name tk, v] [] _ SF.kind SF.split sub (SF.args (.ref x) (.str name tk) v) ?_)
  have hmr : PySem.W.Looks (model prog w) hp (mroOf (.ref C)) cd.mro := (PySem.W.looks_clsIn X hcd).andThen .now
  have L3 : PySem.W.Looks (model prog w) hp (storeTaker? none) none := .now
  have hcls : PySem.W.Looks (model prog w) hp (classData C) cd := PySem.W.looks_clsIn X hcd
  rw [PySem.W.osa_eq, refuse_eq]
  refine wpAny_bind (wpAny_bind (I.type.at (wpAny_bind (hmr.at ?_))))
  rw [refsB_pass Y _ _ hm]
  refine wpAny_pure (wpAny_bind (I.type.at (wpAny_bind ((PySem.W.looks_findIn X ha).at (wpAny_bind (L3.at ?_))))))
  show wpAny _ _ (storeInOwnDict (.ref x) (.ref C) (.str name tk) name v false) _ _ _
  obtain ⟨nm, bs, mro, ns, qn, hd, sn, sb, ab, col, del⟩ := cd
  dsimp only at hh
  subst hh
  unfold storeInOwnDict ownDictForStores
  repeat (first | with_reducible refine store_in_new ?_ ?_ | with_reducible refine wpAny_loadPart_at hx ?_ | with_reducible refine hcls.at ?_ | wp_step)
  · exact ⟨_, #[], _, (Heap.get?_update_ne _ _ _ _ hxs.symm).trans (Heap.get?_push_at rfl rfl), rfl, fun e he => absurd he (by simp), fun _ => rfl⟩
  · intro h' tk' hn' hs
    have hx₁ : (hp.push { cls := .type "dict", data := .dict #[] }).get? x = some { cls := .ref C, data := .fields fv } := Heap.get?_push_of_some _ hx
    refine hq h' tk' hp.objs.size (fun b o hb ho => ?_) (Nat.le_refl _) hxs.symm ?_ hn'
    · exact (hs.2 b (Nat.ne_of_lt (Heap.lt_size ho))).trans ((Heap.get?_update_ne _ _ _ _ hb).trans (Heap.get?_push_of_some _ ho))
    · exact (hs.2 x hxs).trans (Heap.get?_update_self _ hx₁ rfl)
end
structure OexB (newId : String) (tl : List Value) (K : PySem.W.Frag) (C : Addr) : Prop where
  cls : ∃ nm q N bs bm sn sub ab col dd k0 k1 k2 k3 k5, K.lookup C = some (excClassObj nm q C N bs bm true sn sub ab col dd k0 k1 k2 k3 k5 newId) ∧ refsB tl bm = true
  sa : PySem.W.findIn K (.ref C) "__setattr__" = some (some (.builtin "object.__setattr__"))
  exC : PySem.W.subIn K (.ref C) (.type "BaseException") = some true
  tyC : PySem.W.typeIn K (.ref C) = some (.type "type")
  kC : PySem.W.keepIn K (.ref C) = true
section
variable {tl : List Value} {B newId initId : String} (Z : BEx B newId initId tl)
include Z
variable {X : Cx} {pins : List (Addr × Obj)} {σ : L2.St} {H : Hp} {s : Shared} {a C dx : Addr} {f : Str} {y : V} {u : Value} {fs : List (Str × V)} {Q : Unit → Shared → Prop} {E : Value → Shared → Prop} {A : Around}
theorem ost_newB (T : OexB newId tl X.K C) (I : Inv X pins σ H s) (e : H a = some (exo a C none)) (hno : PySem.W.findIn X.K (.ref C) f = some none) (ry : RelV y u)
    (h : ∀ dx s', H dx = none → dx ≠ a → Inv X pins σ (upd (upd H dx (exd dx [(f, y)])) a (exo a C (some dx))) s' → Q () s') : wpAny (model X.prog X.w) A (setAttr (.ref a) f u) Q E s := by
  obtain ⟨nm, q, N, bs, bm, sn, sub, ab, col, dd, k0, k1, k2, k3, k5, hC, hbm⟩ := T.cls
  have hcl : PySem.W.clsIn X.K C = some { name := nm, bases := bs, mro := .ref C :: bm, ns := N, qualname := q, hasDict := true, slotNames := sn, subclasses := sub, abstract := ab, collection := col, hasDel := false } := by unfold PySem.W.clsIn; rw [hC] <;> rfl
  obtain ⟨t1, ho⟩ := exo_at I.hok e
  obtain ⟨hp, g, d, t, os⟩ := s
  refine PySem.W.set_plain I.kIn (ox := { cls := .ref C, dict := none, data := .fields #[.ref t1, .none, .none, .none, .bool false, .none] }) (od := none) ⟨ho, rfl, rfl, trivial⟩ T.sa ?_
  refine osa_B Z I.kIn ho hcl (show refsB tl (.ref C :: bm) = true from hbm) rfl hno (fun h' tk' dx k dn dne hx hn => ?_)
  have hnd : H dx = none := I.hok.fresh dn
  have nd : ∀ {b : Addr} {o : Obj}, hp.get? b = some o → b ≠ dx := fun {b o} q => Nat.ne_of_lt (Nat.lt_of_lt_of_le (Heap.lt_size q) dn)
  have na : ∀ {b : Addr}, H b = none → b ≠ a := fun {b} n z => by
    rw [z, e] at n
    cases n
  have Un1 : Un X.fs [] H (upd (upd H dx (exd dx [(f, y)])) a (exo a C (some dx))) hp h' := {
    keep := fun b o q n _ _ => k b o (na n) q
    slot := fun b o q n _ _ => ⟨o.slots, k b o (na n) q⟩
    free := fun b o q n _ => by rw [upd_ne (na n), upd_ne (nd q)]; exact n
    there := fun b o q _ => by
      by_cases hb : b = a
      · exact ⟨_, by rw [hb]; exact hx⟩
      · exact ⟨o, k b o hb q⟩
    tups := fun b xs q => by rw [upd_ne (at_ne e q exo_tup), upd_ne (ne_of_none q hnd)]; exact q
    frzs := fun b o v q => by rw [upd_ne (at_ne e q exo_frz), upd_ne (ne_of_none q hnd)]; exact q
    tbls := fun b ps q => ⟨#[], by rw [upd_ne (at_ne e q exo_tbl), upd_ne (ne_of_none q hnd), q]; simp⟩ }
  refine h dx _ hnd dne (I.un (t' := tk') Un1 fun b o q => ?_)
  by_cases hb : b = a
  · subst hb
    rw [upd_same] at q
    cases q
    exact exo_ok hx
  · rw [upd_ne hb] at q
    by_cases hd : b = dx
    · subst hd
      rw [upd_same] at q
      cases q
      exact exd_ok hn (relO_put (fs := []) ry fun g => True.intro)
    · rw [upd_ne hd] at q
      exact (I.hok b o q).stay (fun c v hc z => k c v (by
          rcases hc with hc | hc
          · rw [hc]
            exact hb
          · exact at_ne e hc exo_own) z)
        (fun c hc => by rw [upd_ne (at_ne e hc exo_own), upd_ne (ne_of_none hc hnd)]; exact hc) (fun c xs hc => by rw [upd_ne (at_ne e hc exo_tup), upd_ne (ne_of_none hc hnd)]; exact hc)
theorem oinit_B {us : List Value} {Q : Value → Shared → Prop} (T : OexB newId tl X.K C) (I : Inv X pins σ H s) (e : H a = some (exo a C none)) (hl : us.length ≤ sizeLine) (h : ∀ s', Inv X pins σ H s' → Q .none s') :
    wpAny (model X.prog X.w) A (call (.builtin initId) (.ref a :: us)) Q E s := by
  obtain ⟨nm, q, N, bs, bm, sn, sub, ab, col, dd, k0, k1, k2, k3, k5, hC, hbm⟩ := T.cls
  obtain ⟨t1, ho⟩ := exo_at I.hok e
  obtain ⟨hp, g, d, t, os⟩ := s
  refine wpAny_call (init_base Z.F (fun Y => refsB_contains Z Y bm hbm) (I.kIn _ _ hC) ho hl fun h' t2 k hx => ?_)
  have J := I.write (t' := t) (x := a) (e := a) (o := exo a C none) (by rw [e]; exact True.intro) (.inl rfl) k ⟨_, hx⟩ (exo_ok hx)
  have eu : upd H a (exo a C none) = H := by
    funext b
    by_cases hb : b = a
    · rw [hb, upd_same, e]
    · rw [upd_ne hb]
  rw [eu] at J
  exact h _ J
end
def tBeI (newId : String) (tl : List Value) (K : PySem.W.Frag) (ta : TA) : TE := fun σ H Q => ta σ H fun vs H1 => ∃ (a C : Addr) (ws : List V), vs = .ref a :: ws ∧ ws.length ≤ 1000 ∧ OexB newId tl K C ∧ H1 a = some (exo a C none) ∧ Q .non H1
def tOstB (newId : String) (tl : List Value) (K : PySem.W.Frag) (f : Str) (to te : TE) : TS := fun D σ H => te σ H fun y H1 => to σ H1 fun x H2 => ∃ a C : Addr, x = .ref a ∧ OexB newId tl K C ∧ PySem.W.findIn K (.ref C) f = some none ∧
  H2 a = some (exo a C none) ∧ ∀ dx, H2 dx = none → dx ≠ a → D.nx σ (upd (upd H2 dx (exd dx [(f, y)])) a (exo a C (some dx)))
section
variable {tl : List Value} {B newId initId : String} (Z : BEx B newId initId tl)
include Z
variable {X : Cx} {o e a0 : Expr} {es : List Expr} {to te : TE} {ta : TA} {f : Str} {p p' p1 p2 pos : Pos}
theorem ps_ostB (ho : PE X o to) (he : PE X e te) (hs : swapsWith e (some (.Attribute o f p')) pos.line X.env = pure false := by rfl) : PS X (.Assign [.Attribute o f p'] e pos) (tOstB newId tl X.K f to te) := by
  refine ⟨fun pins s σ H D I h => ?_⟩
  refine plainObj_wpAny_Assign_Attribute (thn (he.run pins s σ H _ I h) fun v s1 ⟨y, H1, I1, r1, q1⟩ => thn (ho.run pins s1 σ H1 _ I1 q1) fun u s2 ⟨x, H2, I2, r2, a, C, ex, T, hno, ea, q⟩ => ?_) hs
  subst ex
  obtain rfl : u = Value.ref a := r2
  exact ost_newB Z T I2 ea hno r1 fun dx s' n ne J => ⟨σ, _, J, q dx n ne⟩
/-- B.__init__(self, ..), B a built-in class -/
theorem pe_bltinit {pl : Sem Bool} {Bs : Str} (hg : Gl X Bs) (hm : X.mg Bs = none) (hv : bootBuiltins Bs = some (.type B)) (typ : typeOf (.type B) = pure (.type "type")) (vV : PySem.W.findCls X.K (.type B) (.type "type") "__init__" = some (.val (.builtin initId))) (stub : Manifest.isStub B = false) (handed : PySem.W.handedIn (.builtin initId) = true) (ha : PA X (e :: es) ta) (hd : (Bs == ("__debug__" : Str)) = false := by decide) (hn : Bs ≠ "__name__" := by decide)
    (hc : eval (.Call (.Attribute (.Name Bs p1) "__init__" p2) (e :: es) [] pos) X.env = (do
      let ov ← eval (.Name Bs p1) X.env
      standAt p2.atName
      let (f, first) ← holding [ov] (getMethod ov "__init__" pl)
      callWith pos f first (backTo pos (starEach (e :: es) X.env)) (backToKw pos (keywordEach [] X.env))) := by rfl)
    (he : starEach (e :: es) X.env = (false, eval e X.env) :: starEach es X.env := by rfl) (hpl : (backTo pos (starEach es X.env)).any (·.1) = false := by rfl) :
    PE X (.Call (.Attribute (.Name Bs p1) "__init__" p2) (e :: es) [] pos) (tBeI newId tl X.K ta) := by
  refine ⟨fun pins s σ H Q I h => ?_⟩
  refine PySem.W.methodCall_KW (ld_blt I hg hm hv ?_ hn hd) hc
  obtain ⟨m, fr⟩ := I.fr
  refine PySem.W.method_type fr I.ok.mod.kin typ stub vV handed ?_
  show wpAny _ _ (callWith pos (Value.builtin initId) [] (backTo pos (starEach (e :: es) X.env)) []) _ _ _
  refine PyProof.Rows.callWith_method1 (thn (ha.run pos pins _ σ H _ (I.tok _) h) fun us s1 ⟨vs, H1, I1, r1, a, C, ws, ev, hl, T, ea, q⟩ => ?_) he hpl
  subst ev
  cases r1 with
  | @cons _ u0 _ ur ra rw' =>
    obtain rfl : u0 = Value.ref a := ra
    have hlen : ur.length ≤ sizeLine := by
      rw [← Paired.length rw', sizeLine_eq]
      omega
    exact oinit_B Z T I1 ea hlen fun s' J => ⟨.non, H1, J, rfl, q⟩
end
section
variable {tl : List Value} {B newId initId : String} (Z : BEx B newId initId tl)
include Z
variable {P : Program} {w : World} {K : PySem.W.Frag} {mg : Str → Option Value} {base : Heap}
theorem xinit_B {qual : Str} {st : Stmt} {fI : Addr} {fd : FuncData} {n0 n1 : Str} {C : Addr} {f : Str} (F : Fun K "__init__" qual st fI fd) (sc : FnScope [n0, n1] [n0, n1] (defScope st)) (T : OexB newId tl K C) (hno : PySem.W.findIn K (.ref C) f = some none)
    (hb : ∀ (cdv : Value) (A : Around) (outer : List Env) (s : Shared) (H : Hp) (E : XK) (k : Nat), Cn (XOf P w K mg base [n0, n1] qual (defScope st) fI cdv A outer s H E) (fun c d _ H' => E c d H') k →
      ∃ tv t1, PSs (XOf P w K mg base [n0, n1] qual (defScope st) fI cdv A outer s H E) (defBody st) (fun D σ H => tBeI newId tl K (tCons (tVar 0) (tCons t1 tNil)) σ H fun _ H1 => tOstB newId tl K f (tVar 0) tv D σ H1) ∧ tv = tVar 1 ∧ ∃ z, t1 = tC (.str z)) :
    FnG P w K mg base 1 fI fd [n0, n1] (spX K C f) := by
  obtain ⟨oc, od, kV, doc, pm, an, cdv, ct, osl, rfl, lk, hcd⟩ := F.ex
  refine fnG_of lk hcd sc (fun vs H Q E h => ?_) fun A outer s H vs Q E hr hg h => ?_
  · obtain ⟨a, v, rfl, _⟩ := h; rfl
  · obtain ⟨a, v, rfl, ha, hq⟩ := h
    obtain ⟨tv, t1, hs, rfl, z, rfl⟩ := hb cdv A outer s H E 0 (cn_of sc.nd hr hg)
    exact ⟨_, hs, .ref a, rfl, a, C, [.str z], rfl, by show 1 ≤ 1000; decide, T, ha, v, rfl, .ref a, rfl, a, C, rfl, T, hno, ha, fun dx n ne => hq dx n ne⟩
end
section
variable {tl : List Value} {B newId initId : String} (Z : BEx B newId initId tl)
include Z
variable {X : Cx} {x : Str} {e : Expr} {es : List Expr} {ta : TA} {p pos : Pos}
theorem pmk_B {C fI : Addr} {k : Nat} {fd : FuncData} {ps : List Str} {sp : Sp} {ds : List Value} {dvs : List V} (T : OexB newId tl X.K C) (iC : PySem.W.findIn X.K (.ref C) "__init__" = some (some (.ref fI))) (tI : PySem.W.typeIn X.K (.ref fI) = some (.type "function"))
    (F1 : FnG X.prog X.w X.K X.mg X.base k fI fd ps sp) (hr : Room (k + 1) X.A) (hgd : X.A.guards = some []) (hb : Binds X.K fd ps ds) (hd : Vals dvs ds) (hg : Gl X x) (hm : X.mg x = some (.ref C)) (ha : PA X (e :: es) ta)
    (hdb : (x == ("__debug__" : Str)) = false := by decide) (he : starEach (e :: es) X.env = (false, eval e X.env) :: starEach es X.env := by rfl) (hpl : (backTo pos (starEach es X.env)).any (·.1) = false := by rfl) : PMk X (.Call (.Name x p) (e :: es) [] pos) (tMkO C sp dvs ta) := by
  intro pins s σ H Q I h
  obtain ⟨nm, q, N, bs, bm, sn, sub, ab, col, dd, k0, k1, k2, k3, k5, hC, hbm⟩ := T.cls
  refine wpAny_Call_Name_kw (ld_glob I hg hm ?_ hdb)
  refine PySem.W.callWith_K (h₀ := X.base) I.ok.mod.kin T.kC (thn (ha.run pos pins s σ H _ I h) fun us s1 ⟨vs, H1, I1, r1, hz, q1⟩ => ⟨I1.kIn, ?_⟩) he hpl
  show wpAny _ _ (call (.ref C) us) _ _ _
  obtain ⟨hp, g, dr, tk, os⟩ := s1
  have le1 : hp.objs.size ≤ hp.objs.size + 1 := Nat.le_succ _
  have hq := q1 (hp.objs.size + 1) (I1.hok.fresh le1)
  have kk : ∀ b o, hp.get? b = some o → ((hp.push (PySem.W.kdv_tup us)).push (PySem.HandSPX.excO C hp.objs.size)).get? b = some o := fun b o e => Heap.get?_push_of_some _ (Heap.get?_push_of_some _ e)
  have I2 : Inv X pins σ (upd H1 (hp.objs.size + 1) (exo (hp.objs.size + 1) C none)) ⟨(hp.push (PySem.W.kdv_tup us)).push (PySem.HandSPX.excO C hp.objs.size), g, dr, tk, os⟩ := I1.laid (t' := tk) kk le1 (exo_ok (by heap_get))
  have r2 : Vals (V.ref (hp.objs.size + 1) :: (vs ++ dvs)) (Value.ref (hp.objs.size + 1) :: (us ++ ds)) := .cons rfl (r1.append hd)
  have hl : (Value.ref (hp.objs.size + 1) :: us ++ ds).length = ps.length := by rw [← F1.len _ _ _ _ hq]; exact r2.length.symm
  have hus : us.length ≤ sizeLine := by rw [← Paired.length r1, sizeLine_eq]; omega
  refine wpAny_call (PySem.HandSPX.call_own Z.F (fun Y => refsB_contains Z Y bm hbm) (I1.kIn _ _ hC) (PySem.W.looks_findIn I1.kIn iC) (fun self => PySem.W.bind_fn I1.kIn self tI) hus
    (codeAny_mono (F1.run _ X.stack _ _ ⟨Value.ref (hp.objs.size + 1) :: us, []⟩ (Value.ref (hp.objs.size + 1) :: (us ++ ds)) _ _ (fun _ _ _ => False) (hr.make C us []) (by rw [under_guards]; exact hgd) (I2.env0.make C us []) (hb _ (Value.ref (hp.objs.size + 1) :: us) I2.kIn hl) r2 hq) fun r s' hq' => ?_))
  cases r with
  | error er =>
    obtain ⟨_, _, _, _, _, _, _, _, _, _, _, _, z⟩ := hq'
    exact z.elim
  | ok fl =>
    cases fl with
    | ret u =>
      obtain ⟨v, H2, os2, bare2, un2, hok2, rv, ev, d, fs, ea, ed, hd1, q2⟩ := hq'
      subst ev
      obtain ⟨h2, g2, d2, t2, os'⟩ := s'
      exact ⟨rv, mk_end (raises_own T.exC T.tyC) I1 le1 kk un2 hok2 os2 bare2 ea ed hd1 q2⟩
    | _ => exact False.elim hq'
end
/-- an own exception class over a built-in one that may be raised: c its number, one field -/
structure XB (newId : String) (tl : List Value) (G : GE) (P : Program) (w : World) (K : PySem.W.Frag) (mg : Str → Option Value) (base : Heap) (c : Nat) (x : Str) (f : Str) : Prop where
  T : OexB newId tl K (G.cls c)
  fl : G.fld c = [f]
  nm : mg x = some (.ref (G.cls c))
  ini : ∃ (fI : Addr) (fd : FuncData) (ps : List Str), PySem.W.findIn K (.ref (G.cls c)) "__init__" = some (some (.ref fI)) ∧ PySem.W.typeIn K (.ref fI) = some (.type "function") ∧ FnG P w K mg base 1 fI fd ps (spX K (G.cls c) f) ∧ Binds K fd ps []
section
variable {tl : List Value} {B newId initId : String} (Z : BEx B newId initId tl)
include Z
variable {G : GE} {p : Hh} {E : WX} {X : Cx} {k c : Nat} {x f : Str} {a : Expr} {ma : Lo → S → R W} {p' pos pos' : Pos}
theorem ss_raiseB (F : XB newId tl G X.prog X.w X.K X.mg X.base c x f) (cn : Cn X E k) (h2 : 2 ≤ k) (ha : SE G p E X a ma) (hg : Gl X x := by rfl) (hdb : (x == ("__debug__" : Str)) = false := by decide) (he : starEach (a :: []) X.env = (false, eval a X.env) :: starEach [] X.env := by rfl)
    (hpl : (backTo pos (starEach [] X.env)).any (·.1) = false := by rfl) : SS G p E X (.Raise (some (.Call (.Name x p') [a] [] pos)) none pos') (sRaise c ma) := by
  obtain ⟨fI, fd, ps, i1, i2, g, b⟩ := F.ini
  refine PS_imp (ps_raise cn.calm cn.tk (pmk_B Z F.T i1 i2 g (cn.room.mono h2) cn.gd b .nil hg F.nm (pa1 ha he) hdb he hpl)) fun D σ H ⟨ρ, l, s, rl, rp, h⟩ => ?_
  unfold sRaise at h
  refine ⟨ρ, l, s, rl, rp, PoS.val rl h fun w s1 ρ1 H1 v x1 rp1 rv1 h1 => ⟨by show 1 ≤ 1000; decide, fun q hq => ?_⟩⟩
  refine ⟨q, v, rfl, upd_same, fun dx hdx ne => ⟨rfl, dx, [(f, v)], upd_same, by rw [upd_ne ne, upd_same], ?_, ?_⟩⟩
  · rw [upd_ne ne] at hdx; exact hdx
  · have hdx1 : H1 dx = none := by rw [upd_ne ne] at hdx; exact hdx
    have eH : upd (del (upd (upd (upd H1 q (exo q (G.cls c) none)) dx (exd dx [(f, v)])) q (exo q (G.cls c) (some dx))) q) dx (.xd [(f, v)]) = upd H1 dx (.xd [(f, v)]) := by
      funext b
      by_cases hb : b = dx
      · rw [hb, upd_same, upd_same]
      · rw [upd_ne hb, upd_ne hb]
        by_cases hq2 : b = q
        · rw [hq2, del_same, hq]
        · rw [del_ne hq2, upd_ne hq2, upd_ne hb, upd_ne hq2]
    rw [eH]
    have xx := Ex.fresh (u := .xd [(f, v)]) rp1 hdx1
    refine h1 ρ1 _ (some dx) σ xx (rp1.fresh hdx1) ?_ ((rl.mono x1).mono xx)
    unfold RX
    rw [F.fl]
    exact ⟨dx, v, rfl, rp1.ref_none hdx1, upd_same, rv1.mono xx⟩
end
abbrev tlOv : List Value := [.type "OverflowError", .type "ArithmeticError", .type "Exception", .type "BaseException", .type "object"]
theorem bx_Overflow : BEx "OverflowError" "OverflowError.__new__" "OverflowError.__init__" tlOv := ⟨PySem.F.excBase_OverflowError, fun self => by kernel_rfl, by decide +kernel, ⟨_, _, rfl⟩⟩
abbrev tlRt : List Value := [.type "RuntimeError", .type "Exception", .type "BaseException", .type "object"]
theorem bx_Runtime : BEx "RuntimeError" "RuntimeError.__new__" "RuntimeError.__init__" tlRt := ⟨PySem.F.excBase_RuntimeError, fun self => by kernel_rfl, by decide +kernel, ⟨_, _, rfl⟩⟩
theorem typ_Ov : typeOf (.type "OverflowError") = pure (.type "type") := by kernel_rfl
theorem typ_Rt : typeOf (.type "RuntimeError") = pure (.type "type") := by kernel_rfl
theorem oeb_mk {K : PySem.W.Frag} {C : Addr} {newId : String} {tl : List Value} {nm q : Str} {N : Addr} {bs bm : List Value} {sn : List Str} {sub : List Value} {ab : Bool} {col : Option Bool} {dd : Option Addr} {k0 k1 k2 k3 k5 : Option Value} (l : K.lookup C = some (excClassObj nm q C N bs bm true sn sub ab col dd k0 k1 k2 k3 k5 newId)) (b : refsB tl bm = true)
    (sa : PySem.W.findIn K (.ref C) "__setattr__" = some (some (.builtin "object.__setattr__"))) (exC : PySem.W.subIn K (.ref C) (.type "BaseException") = some true) (tyC : PySem.W.typeIn K (.ref C) = some (.type "type")) (kC : PySem.W.keepIn K (.ref C) = true) : OexB newId tl K C :=
  ⟨⟨nm, q, N, bs, bm, sn, sub, ab, col, dd, k0, k1, k2, k3, k5, l, b⟩, sa, exC, tyC, kC⟩
theorem xb_mk {G : GE} {P : Program} {w : World} {K : PySem.W.Frag} {mg : Str → Option Value} {base : Heap} {newId : String} {tl : List Value} {c : Nat} {x f : Str} {fI : Addr} {fd : FuncData} {ps : List Str} (T : OexB newId tl K (G.cls c)) (fl : G.fld c = [f]) (nm : mg x = some (.ref (G.cls c))) (i1 : PySem.W.findIn K (.ref (G.cls c)) "__init__" = some (some (.ref fI))) (i2 : PySem.W.typeIn K (.ref fI) = some (.type "function")) (g : FnG P w K mg base 1 fI fd ps (spX K (G.cls c) f)) (b : Binds K fd ps []) : XB newId tl G P w K mg base c x f :=
  ⟨T, fl, nm, fI, fd, ps, i1, i2, g, b⟩
end CC
set_option Elab.async false
set_option linter.all false
set_option maxRecDepth 100000
set_option maxHeartbeats 2000000
/-! CCHot: defs called within an except suite (plain ones: no loops, nothing raised) -/
namespace CC
open PySem PySem.Spec PyProof.Rows L2

mutual
theorem RV.chg {G G' : GE} {ρ : List Addr} {H : Hp} : ∀ {w : W} {v : V}, RV G ρ H w v → RV G' ρ H w v
  | _, _, .non => .non
  | _, _, .bl b => .bl b
  | _, _, .int i => .int i
  | _, _, .str z => .str z
  | _, _, .ref h => .ref h
  | _, _, .tup na h r => .tup na h (RVs.chg r)
theorem RVs.chg {G G' : GE} {ρ : List Addr} {H : Hp} : ∀ {ws : List W} {vs : List V}, RVs G ρ H ws vs → RVs G' ρ H ws vs
  | _, _, .nil => .nil
  | _, _, .cons h r => .cons (RV.chg h) (RVs.chg r)
end
theorem RO.chg {G G' : GE} {ρ : List Addr} {H : Hp} (ec : G'.cls = G.cls) (ef : G'.fld = G.fld) {o : Ob} {u : HO} (r : RO G ρ H o u) : RO G' ρ H o u := by
  cases r with
  | lst r => exact .lst r.chg
  | frz => exact .frz
  | dK r r2 => exact .dK r r2.chg
  | dT r r2 => exact .dT r r2.chg
  | @ins c fs gs dx k r =>
    rw [← ec]
    exact .ins (by rw [ef]; exact k) r.chg
theorem Rep.chg {G G' : GE} {ρ : List Addr} {H : Hp} {p : Hh} {s : S} (ec : G'.cls = G.cls) (ef : G'.fld = G.fld) (r : Rep G ρ p s H) : Rep G' ρ p s H := ⟨r.len, r.nd, fun n o h => by
  obtain ⟨a, u, e1, e2, e3⟩ := r.has n o h
  exact ⟨a, u, e1, e2, e3.chg ec ef⟩⟩
theorem RX.chg {G G' : GE} {ρ : List Addr} {H : Hp} {c : Nat} {w : W} {d : Option Addr} (ef : G'.fld = G.fld) (r : RX G ρ H c w d) : RX G' ρ H c w d := by
  unfold RX at *
  rw [ef]
  split
  · trivial
  · rename_i f hf
    rw [hf] at r
    obtain ⟨dd, v, e1, n, e2, q⟩ := r
    exact ⟨dd, v, e1, n, e2, q.chg⟩
theorem PoV.chg {G G' : GE} {p : Hh} {ρ : List Addr} {H : Hp} {r : R W} {Q : VK} {E : XK} (ec : G'.cls = G.cls) (ef : G'.fld = G.fld) (h : PoV G' p ρ H r Q E) : PoV G p ρ H r Q E := by
  cases r with
  | ok w s' => exact fun ρ' H' v x y z => h ρ' H' v x (y.chg ec ef) z.chg
  | exc c w s' =>
    intro ρ' H' d x y z
    rw [← ec]
    exact h ρ' H' d x (y.chg ec ef) (z.chg ef)
  | bad => exact h

/-- a context within an except suite, or of a def that is called there -/
structure Ch (X : Cx) (E : WX) (k : Nat) : Prop where
  room : L2H.RoomH k X.A
  pin : ∃ q, q ∈ X.pn
  tk : Takes X E
  nd : X.N.Nodup
section
variable {X : Cx} {E : WX} {k : Nat}
theorem Ch.u65 (cn : Ch X E k) : X.A.units + 65 < cLine := by have := cn.room.un; omega
theorem Ch.u64 (cn : Ch X E k) : X.A.units + 64 < cLine := by have := cn.room.un; omega
theorem Ch.u1 (cn : Ch X E k) : X.A.units + 1 < cLine := by have := cn.room.un; omega
theorem Ch.u0 (cn : Ch X E k) : X.A.units < cLine := by have := cn.room.un; omega
end
/-- what a plain def promises, whatever is handled -/
structure FnP (P : Program) (w : World) (K : PySem.W.Frag) (mg : Str → Option Value) (base : Heap) (k : Nat) (f : Addr) (fd : FuncData) (ps : List Str) (sp : Sp) : Prop where
  len : ∀ vs H Q E, sp vs H Q E → vs.length = ps.length
  run : ∀ (A : Around) (outer : List Env) (s : Shared) (H : Hp) (args : Args) (us : List Value) (vs : List V) (Q : VK) (E : XK) (q : Addr × Obj), L2H.RoomH k A → L2H.PinOk outer H s q → Env0 P w K mg base A outer s H → BindsTo s fd args (ps.zip us) → Vals vs us → sp vs H Q E →
    codeAny (model P w) A (.call (.ref f) args) (CR (L2.CX P w) outer P w H s Q E) s
abbrev XHf (P : Program) (w : World) (K : PySem.W.Frag) (mg : Str → Option Value) (base : Heap) (N : List Str) (qual : Str) (sc : Scope) (f : Addr) (cdv : Value) (A : Around) (outer : List Env) (s : Shared) (H : Hp) (E : XK) (q : Addr × Obj) : Cx :=
  L2H.cxH (L2.CX P w) P w K mg base N qual sc f cdv A outer s H E q
section
variable {P : Program} {w : World} {K : PySem.W.Frag} {mg : Str → Option Value} {base : Heap} {k : Nat} {f : Addr} {fd : FuncData} {ps : List Str} {sp : Sp}
theorem FnP.mono {j : Nat} (F : FnP P w K mg base j f fd ps sp) (h : j ≤ k) : FnP P w K mg base k f fd ps sp :=
  ⟨F.len, fun A outer s H args us vs Q E q hr => F.run A outer s H args us vs Q E q (hr.mono h)⟩
theorem fnP_of {name qual : Str} {params : Arguments} {body : List Stmt} {scope : Scope} {dV kV doc pm cdv ct oc : Value} {an od : Option Addr} {osl : Array (Option Value)} {N : List Str}
    (lk : K.lookup f = some ⟨oc, od, .func (PySem.W.fnOf name qual params body scope dV kV doc pm an cdv ct), osl⟩) (hcd : PySem.W.codeIn K cdv qual = true) (sc : FnScope N ps scope) (len : ∀ vs H Q E, sp vs H Q E → vs.length = ps.length)
    (hb : ∀ (A : Around) (outer : List Env) (s : Shared) (H : Hp) (vs : List V) (Q : VK) (E : XK) (q : Addr × Obj), L2H.RoomH k (A.deeper (envOfC qual scope s.heap.objs.size f cdv)) → sp vs H Q E →
      ∃ t, PSs (XHf P w K mg base N qual scope f cdv A outer s H E q) body t ∧ t { nx := fun _ H' => Q .non H', rt := Q } (L2.start N vs) H) :
    FnP P w K mg base (k + 1) f (PySem.W.fnOf name qual params body scope dV kV doc pm an cdv ct) ps sp := by
  refine ⟨len, fun A outer s H args us vs Q E q room hpin e0 bnd rel hsp => ?_⟩
  have lenv := len _ _ _ _ hsp
  have kIn : K.In s.heap := e0.mod.kin.keeps fun b o e => (e0.bs b o e).1
  have noLim : s.heap.NoLimit := e0.mod.nolimit.keeps fun b o e => (e0.bs b o e).1
  have kinds : ∀ y ∈ ps.zip us, scope.names.lookup y.1 = some .local ∨ (scope.names.lookup y.1 = some .cell ∧ ((cellsFrom (s.heap.objs.size + 1) scope.names []).lookup y.1).isSome = true) := by
    rintro ⟨n, v⟩ hy
    rcases sc.par n (List.of_mem_zip hy).1 with q | q
    · exact .inl q
    · exact .inr ⟨q, PySem.W.cellsFrom_some _ _ _ (.inl q)⟩
  refine codeAny_call_function room.depth (kIn _ _ lk) rfl sc.co sc.gen rfl (PySem.W.codeRec_of kIn hcd) (bnd _ _ _ _ ?_)
  refine wpAny_newFunctionEnv_cells sc.kind kinds fun env he s1 x => ?_
  subst he
  refine ⟨noLim.keeps x.toInCall.keep, codeAny_func ?_⟩
  obtain ⟨t, ht, hq⟩ := hb A outer s H vs Q E q (room.deeper _) hsp
  have I : Inv (XHf P w K mg base N qual scope f cdv A outer s H E q) [] (L2.start N vs) H s1 := L2H.inv_startH sc hpin e0 lenv rel x
  refine wpAny_mono (ht.run [] s1 (L2.start N vs) H _ I hq) (fun fl s' hs => ?_) fun _ _ hs => hs
  cases fl with
  | ret u =>
    obtain ⟨v, σ', H', J, rv, q⟩ := hs
    exact ⟨v, H', J.os, J.bare, J.base, J.hok, rv, q⟩
  | next =>
    obtain ⟨σ', H', J, q⟩ := hs
    exact ⟨.non, H', J.os, J.bare, J.base, J.hok, rfl, q⟩
  | brk =>
    obtain ⟨_, _, _, q⟩ := hs
    exact q.elim
  | cont =>
    obtain ⟨_, _, _, q⟩ := hs
    exact q.elim
end
section
variable {X : Cx} {k : Nat} {f C : Addr} {fd : FuncData} {ps : List Str} {sp : Sp} {E : L2.St → XK}
theorem run_fnP {pins : List (Addr × Obj)} {σ : L2.St} {H : Hp} {s : Shared} {Q : VK} {us : List Value} {vs : List V} (F : FnP X.prog X.w X.K X.mg X.base k f fd ps sp) (hr : L2H.RoomH k X.A) (hp : ∃ q, q ∈ X.pn) (hb : Binds X.K fd ps []) (hx : PassesAt (L2.CX X.prog X.w) X σ (E σ))
    (I : Inv X pins σ H s) (r : Vals vs us) (h : sp vs H Q (E σ)) : wpAny (model X.prog X.w) X.A (call (.ref f) us) (EP X pins σ Q) X.xe s := by
  obtain ⟨q, hq⟩ := hp
  have ln : us.length = ps.length := by rw [← r.length]; exact F.len _ _ _ _ h
  have bd := hb s us I.kIn (by simpa using ln)
  rw [List.append_nil] at bd
  have pq := I.pin q (List.mem_append_left _ hq)
  have pk : L2H.PinOk X.stack H s q := ⟨pq.1, pq.2.1, fun hm => (List.mem_cons.mp (I.stkSub q.1 hm)).elim pq.2.2.1 pq.2.2.2.1, pq.2.2.2.2⟩
  have go := F.run X.A X.stack s H ⟨us, []⟩ us vs Q (E σ) q hr pk I.env0 bd r h
  refine wpAny_call (codeAny_mono go fun r s' hq => ?_)
  match r, hq with
  | .error e, hq => exact hx pins H s e s' I hq
  | .ok (.ret u), hq => exact I.after hq
  | .ok .next, hq => exact hq.elim
  | .ok .brk, hq => exact hq.elim
  | .ok .cont, hq => exact hq.elim
end
/-- a plain def of the text as it may be called -/
structure FH (G : GE) (P : Program) (w : World) (K : PySem.W.Frag) (mg : Str → Option Value) (base : Heap) (k : Nat) (f : Addr) (Fm : Hh → List W → R W) : Prop where
  ex : ∃ (fd : FuncData) (ps : List Str), FnP P w K mg base k f fd ps (spI G Fm) ∧ Binds K fd ps []
  kp : PySem.W.keepIn K (.ref f) = true
section
variable {P : Program} {w : World} {K : PySem.W.Frag} {mg : Str → Option Value} {base : Heap} {G : GE} {k : Nat} {f : Addr} {Fm : Hh → List W → R W}
theorem FH.mono {j : Nat} (F : FH G P w K mg base j f Fm) (h : j ≤ k) : FH G P w K mg base k f Fm := by
  obtain ⟨⟨fd, ps, a, b⟩, kp⟩ := F
  exact ⟨⟨fd, ps, a.mono h, b⟩, kp⟩
theorem fh_mk {x qual : Str} {st : Stmt} {fd : FuncData} {ps : List Str} (F : Fun K x qual st f fd) (g : FnP P w K mg base k f fd ps (spI G Fm)) (b : Binds K fd ps []) : FH G P w K mg base k f Fm := ⟨⟨fd, ps, g, b⟩, F.kp⟩
theorem ch_of {N : List Str} {qual : Str} {sc : Scope} {cdv : Value} {A : Around} {outer : List Env} {s : Shared} {H : Hp} {E : XK} {q : Addr × Obj} (nd : N.Nodup) (hr : L2H.RoomH k (A.deeper (envOfC qual sc s.heap.objs.size f cdv))) :
    Ch (XHf P w K mg base N qual sc f cdv A outer s H E q) (fun c d _ H' => E c d H') k :=
  ⟨hr, ⟨q, List.mem_singleton.mpr rfl⟩, takes_of rfl rfl rfl rfl, nd⟩
theorem fn_okP (hJ : ∀ ρ σ H, G.J ρ σ H) {x qual : Str} {st : Stmt} {fd : FuncData} {N ps : List Str} {b : Hh → Lo → S → RS} (F : Fun K x qual st f fd) (sc : FnScope N ps (defScope st))
    (hb : ∀ (cdv : Value) (A : Around) (outer : List Env) (s : Shared) (H : Hp) (E : XK) (q : Addr × Obj) (p : Hh), Ch (XHf P w K mg base N qual (defScope st) f cdv A outer s H E q) (fun c d _ H' => E c d H') k →
      SB G p (fun c d _ H' => E c d H') (XHf P w K mg base N qual (defScope st) f cdv A outer s H E q) (defBody st) (b p)) :
    FnP P w K mg base (k + 1) f fd ps (spI G (fnI ps.length N.length b)) := by
  obtain ⟨oc, od, kV, doc, pm, an, cdv, ct, osl, rfl, lk, hcd⟩ := F.ex
  refine fnP_of lk hcd sc (fun vs H Q E h => ?_) fun A outer s H vs Q E q hr h => ?_
  · obtain ⟨ρ, p, ws, rv, rp, h⟩ := h
    rw [← rv.len]; exact (fnI_len h).1
  obtain ⟨ρ, p, ws, rv, rp, h⟩ := h
  exact ⟨_, hb cdv A outer s H E q p (ch_of sc.nd hr), ρ, _, _, start_rl rv (hJ _ _ _), rp, fnI_ok rp (fnI_len h).2⟩
end
section
variable {G G' : GE} {p : Hh} {E : WX} {X : Cx} {k c : Nat} {pos apos : Pos} {o : Expr} {mo : Lo → S → R W} {Fm : Hh → List W → R W} {f : Addr}
theorem obj_at' {ρ : List Addr} {H : Hp} {s : S} {w : W} {v : V} (ec : G'.cls = G.cls) (ef : G'.fld = G.fld) (rp : Rep G' ρ p s H) (rv : RV G' ρ H w v) (h : isC p s c w = true) : ∃ a dx gs, v = .ref a ∧ H a = some (.ins (G.cls c) dx gs) ∧ ∀ m, m ∉ G.fld c → gs.lookup m = none :=
  obj_at (G := G) (rp.chg ec.symm ef.symm) rv.chg h
theorem sp_of' {ρ : List Addr} {H : Hp} {s : S} {xs : List W} {vs : List V} {Q : VK} {E : XK} (ec : G'.cls = G.cls) (ef : G'.fld = G.fld) (rv : RVs G' ρ H xs vs) (rp : Rep G' ρ p s H) (h : PoV G' p ρ H (callF Fm p xs s) Q E) : spI G Fm vs H Q E :=
  sp_of (G := G) rv.chg (rp.chg ec.symm ef.symm) (h.chg ec ef)
theorem se_meth0H (ec : G'.cls = G.cls) (ef : G'.fld = G.fld) {m : Str} {pl : Sem Bool} (T : CC_ G X.K c) (hm : Meth X.K (G.cls c) m f) (hmf : m ∉ G.fld c) (FF : FH G X.prog X.w X.K X.mg X.base k f Fm) (cn : Ch X E k) (ho : SE G' p E X o mo)
    (ht : eval (.Call (.Attribute o m apos) [] [] pos) X.env = (do
      let ov ← eval o X.env
      standAt apos.atName
      let (f, first) ← holding [ov] (getMethod ov m pl)
      callWith pos f first (backTo pos (starEach [] X.env)) (backToKw pos (keywordEach [] X.env))) := by rfl) : SE G' p E X (.Call (.Attribute o m apos) [] [] pos) (eMeth c Fm p [] mo aNil) := by
  obtain ⟨fd, ps, F, hb⟩ := FF.ex
  refine ⟨fun pins s σ H Q I ⟨ρ, l, s0, rl, rp, h⟩ => ?_⟩
  unfold eMeth at h
  have h2 := PoA.bind (rel := RV G') (Q := fun v H1 => ∃ ρ1 s1 w, RL G' ρ1 H1 l σ ∧ Rep G' ρ1 p s1 H1 ∧ RV G' ρ1 H1 w v ∧ PoV G' p ρ1 H1 (match isC p s1 c w with
    | true => (aNil l s1).bind fun xs s2 => callF Fm p (w :: (xs ++ [])) s2
    | false => .bad) Q (fun c d H' => E c d σ H')) h fun w s1 ρ1 H1 v x1 rp1 rv1 h1 => ⟨ρ1, s1, w, rl.mono x1, rp1, rv1, h1⟩
  refine PySem.W.methodCall_KW (pl := pl) (thn (ho.run pins s σ H _ I ⟨ρ, l, s0, rl, rp, h2⟩) fun u s1 ⟨v, H1, I1, ru, ρ1, s2, w, rl1, rp1, rv1, h3⟩ => ?_) ht
  cases q : isC p s2 c w with
  | false => rw [q] at h3; exact h3.elim
  | true =>
    rw [q] at h3
    obtain ⟨a', dx, gs, ev, ea, hl⟩ := obj_at' ec ef rp1 rv1 q
    subst ev
    obtain rfl : u = Value.ref a' := ru
    refine getmeth_ok I1 ea T.cl hm (hl m hmf) ?_
    exact PySem.W.callWith_K0 (first := [.ref a']) I1.kIn hm.kp (run_fnP (us := [.ref a']) (vs := [.ref a']) (E := WE E) F cn.room cn.pin hb (passAt cn.tk σ) I1 (.cons rfl .nil) (sp_of' ec ef (.cons rv1 .nil) rp1 h3))
theorem i_eqOH (ec : G'.cls = G.cls) (ef : G'.fld = G.fld) (FF : FH G X.prog X.w X.K X.mg X.base k f Fm) (cn : Ch X E k) (hs : PySem.W.findIn X.K (.ref (G.cls c)) "__eq__" = some (some (.ref f))) (hf : PySem.W.isFn X.K (.ref f) = true) : OpI G' X (compareOp .Eq) (gEqO c Fm) := by
  intro p pins s σ H v u v' u' Q I rv ru ⟨ρ, s0, x, y, rp, r1, r2, q⟩
  unfold gEqO at q
  cases e1 : isC p s0 c x with
  | false => rw [e1] at q; exact i_eq cn.u64 p pins s σ H v u v' u' Q I rv ru ⟨ρ, s0, x, y, rp, r1, r2, q⟩
  | true =>
    rw [e1] at q
    cases e2 : isC p s0 c y with
    | false => rw [e2] at q; exact q.elim
    | true =>
      rw [e2] at q
      dsimp only at q
      obtain ⟨a, dx, gs, rfl, ha, _⟩ := obj_at' ec ef rp r1 e1
      obtain ⟨b, dy, gs', rfl, hb, _⟩ := obj_at' ec ef rp r2 e2
      cases rv
      cases ru
      obtain ⟨mA, J, _⟩ := ins_get I.hok ha
      obtain ⟨mB, J', _⟩ := ins_get I.hok hb
      obtain ⟨od, J, _⟩ := J.look
      obtain ⟨od', J', _⟩ := J'.look
      obtain ⟨m, hF⟩ := I.fr
      show wpAny (model X.prog X.w) X.A (richCompare .Eq (.ref a) (.ref b)) (EP X pins σ Q) X.xe s
      refine PySem.W.cmp_K (op := .Eq) (tb := .ref (G.cls c)) cn.u0 hF I.ok.mod.kin J J'.type (by simp [PySem.W.notFirst]) hs hf ?_
      obtain ⟨fd, ps, F, bnd⟩ := FF.ex
      have go := run_fnP (Q := fun v H' => ∃ b, v = .bl b ∧ Q v H') (us := [.ref a, .ref b]) (vs := [.ref a, .ref b]) (E := fun _ => fun _ _ _ => False) F cn.room cn.pin bnd (fun pins H s e s' I z => ?_) I (.cons rfl (.cons rfl .nil)) (sp_of' ec ef (.cons r1 (.cons r2 .nil)) rp ?_)
      · refine wpAny_mono go (fun v s' z => ?_) fun _ _ z => z
        obtain ⟨_, H', I', rv, b, rfl, hq⟩ := z
        obtain rfl : v = Value.bool b := rv
        exact ⟨.bl b, H', I', rfl, hq⟩
      · obtain ⟨_, _, _, _, _, _, _, _, _, _, _, _, z⟩ := z
        exact z.elim
      · cases e3 : callF Fm p [x, y] s0 with
        | ok w s' =>
          rw [e3] at q
          cases w with
          | bl b =>
            intro ρ' H' v' y' rp' rv'
            cases rv'
            exact ⟨b, rfl, q ρ' H' _ y' rp' (.bl b)⟩
          | _ => exact q.elim
        | exc _ _ _ => rw [e3] at q; exact q.elim
        | bad => rw [e3] at q; exact q.elim
end
end CC
set_option Elab.async false
set_option linter.all false
set_option maxRecDepth 100000
set_option maxHeartbeats 2000000
/-! CCSuite: except suites: the exception's field, its class; try -/
namespace CC
open PySem PySem.Spec PyProof.Rows L2

/-- the exception a with its dict d stands in slot i; its one field f is w -/
def GE.inS (G : GE) (i : Nat) (a : Addr) (d : Option Addr) (f : Str) (w : W) (hH : G.hold = none) : GE where
  cls := G.cls
  fld := G.fld
  J := fun ρ σ H => G.J ρ σ H ∧ σ[i]? = some (some (.ref a)) ∧ ∃ dd v, d = some dd ∧ dd ∉ ρ ∧ H dd = some (.xd [(f, v)]) ∧ RV G ρ H w v
  jm := fun x ⟨h1, h2, dd, v, e, n, hd, r⟩ => ⟨G.jm x h1, h2, dd, v, e, x.nin n hd, x.keep _ _ n hd, r.mono x⟩
  hold := some i
  js := fun j o hj ⟨h1, h2, h3⟩ => ⟨G.js j o (by rw [hH]; intro z; cases z) h1, by rw [List.getElem?_set_ne (fun e => hj (by rw [e]))]; exact h2, h3⟩
/-- what a suite's rules may use of its context -/
structure Cs (X : Cx) (k : Nat) : Prop where
  gd : X.A.guards = some []
  ch : Ch X (fun _ _ _ _ => False) k
theorem Cs.u65 {X : Cx} {k : Nat} (c : Cs X k) : X.A.units + 65 < cLine := c.ch.u65
theorem Cs.u64 {X : Cx} {k : Nat} (c : Cs X k) : X.A.units + 64 < cLine := c.ch.u64
theorem Cs.u1 {X : Cx} {k : Nat} (c : Cs X k) : X.A.units + 1 < cLine := c.ch.u1
theorem Cs.u0 {X : Cx} {k : Nat} (c : Cs X k) : X.A.units < cLine := c.ch.u0
theorem Cs.nd {X : Cx} {k : Nat} (c : Cs X k) : X.N.Nodup := c.ch.nd
theorem takes_no {X : Cx} : Takes X (fun _ _ _ _ => False) := fun u s' x => by
  obtain ⟨_, _, _, _, _, _, _, _, _, _, _, _, _, _, _, _, z⟩ := x
  exact z.elim
theorem cs_of {X : Cx} {E : WX} {k : Nat} (cn : Cn X E k) (a : Addr) (o : Obj) (pn : List (Addr × Obj)) : Cs (X.suite a ((a, o) :: pn)) k := ⟨cn.gd, ⟨cn.room.dp, cn.room.un⟩, ⟨_, List.mem_cons_self ..⟩, takes_no, cn.nd⟩
section
variable {G : GE} {p : Hh} {X : Cx} {i c : Nat} {a : Addr} {oe : Obj} {pn : List (Addr × Obj)} {d : Option Addr} {f : Str} {w : W} {hH : G.hold = none} {E : WX} {pos p1 p' q' : Pos} {x n : Str}
/-- e.f -/
theorem se_exf (T : XfC X.K (G.cls c)) (hno : PySem.W.findIn X.K (.ref (G.cls c)) f = some none) (hz : Zc (.ref (G.cls c)) d oe) (hf : ∃ vs, oe.data = .fields vs) (hi : X.N[i]? = some n := by rfl) (hv : Vis X.env.scope n := by first | exact Or.inl rfl | exact Or.inr (Or.inl rfl) | exact Or.inr (Or.inr rfl)) (hd : (n == ("__debug__" : Str)) = false := by decide) (hcd : (n == ("__classdict__" : Str)) = false := by decide)
    (hb : attributeBase (.Name n p1) f X.env (eval (.Name n p1) X.env) = eval (.Name n p1) X.env := by rfl) : SE (G.inS i a d f w hH) p E (X.suite a ((a, oe) :: pn)) (.Attribute (.Name n p1) f pos) (eC w) :=
  PE_imp (pe_xf (X := X) (cls := .ref (G.cls c)) (d := d) T hno hz hf (pe_var (X := X.suite a ((a, oe) :: pn)) hi hv hd hcd) hb) fun σ H Q ⟨ρ, l, s, rl, rp, h⟩ => by
    obtain ⟨_, h2, dd, v, e, n1, hd, r⟩ := rl.inv
    exact ⟨.ref a, h2, rfl, rfl, dd, _, v, e, hd, by simp [List.lookup], h ρ H v Ex.rfl' rp r.chg⟩
/-- isinstance(e, C) -/
theorem se_exi {cv : Value} {cV : V} {b : Bool} {tn : Expr} (C : ExcC X.K (G.cls c)) (hk : PySem.W.kitOne X.K (.ref (G.cls c)) cv = some b) (hcv : ∀ u, RelV cV u → u = cv) (ht : PE (X.suite a ((a, oe) :: pn)) tn (tC cV)) (hz : Zc (.ref (G.cls c)) d oe) (hf : ∃ vs, oe.data = .fields vs) (hm : X.mg "isinstance" = none) (hi : X.N[i]? = some n := by rfl) (hv : Vis X.env.scope n := by first | exact Or.inl rfl | exact Or.inr (Or.inl rfl) | exact Or.inr (Or.inr rfl)) (hd : (n == ("__debug__" : Str)) = false := by decide) (hcd : (n == ("__classdict__" : Str)) = false := by decide)
    (hg : Gl X "isinstance" := by rfl) (hs : starEach (.Name n p1 :: [tn]) X.env = (false, eval (.Name n p1) X.env) :: starEach [tn] X.env := by rfl) (hs2 : starEach (tn :: []) X.env = (false, eval tn X.env) :: starEach [] X.env := by rfl) (hpl : (backTo pos (starEach [tn] X.env)).any (·.1) = false := by rfl) :
    SE (G.inS i a d f w hH) p E (X.suite a ((a, oe) :: pn)) (.Call (.Name "isinstance" p') [.Name n p1, tn] [] pos) (eC (.bl b)) := by
  have rule : CallR (X.suite a ((a, oe) :: pn)) (.builtin "isinstance") (fun xs H Q => xs = [.ref a, cV] ∧ (∃ dd fs, d = some dd ∧ H dd = some (.xd fs)) ∧ Q (.bl b) H) := by
    intro pins s σ H xs us Q I r h
    obtain ⟨rfl, ⟨dd, fs, e, hx⟩, q⟩ := h
    cases r with
    | cons rx rr =>
      cases rr with
      | cons rt rr =>
        cases rr
        cases rx
        have ec := hcv _ rt
        subst ec
        obtain ⟨hget, _⟩ := I.pin (a, oe) (List.mem_append.mpr (.inl List.mem_cons_self))
        obtain ⟨vs, hd⟩ := hf
        obtain ⟨mA, hns, _⟩ := (show ObjOk X.prog X.w H s.heap dd (.xd fs) from I.hok dd _ hx)
        obtain ⟨od, ho, hl⟩ := lookIn_ns hns
        have J : PySem.W.InstAt s.heap a oe (G.cls c) (some od) := ⟨hget, hz.1, by unfold PySem.W.notCls; rw [hd] <;> rfl, by rw [hz.2, e]; exact ho⟩
        exact PySem.W.kia_one (PySem.W.kitx_exc (by obtain ⟨cd, hc, _⟩ := PySem.W.any_some C.hd; rw [hc]; rfl) C.hg C.hk C.hs C.ha C.hn C.ht C.hm) I.kIn J hk (fun z => nomatch z) fun tk => ⟨.bl b, H, I.kept (t' := tk) fun _ _ z => z, rfl, q⟩
  exact PE_imp (pe_callB (X := X.suite a ((a, oe) :: pn)) (x := "isinstance") rule hg hm (by decide +kernel) (pa_cons (pe_var (X := X.suite a ((a, oe) :: pn)) hi hv hd hcd) (pa_cons ht pa_nil hs2) hs) (by decide) (by decide) hs hpl) fun σ H Q ⟨ρ, l, s, rl, rp, h⟩ => by
    obtain ⟨_, h2, dd, v, e, n1, hd, r⟩ := rl.inv
    exact ⟨.ref a, h2, rfl, ⟨dd, _, e, hd⟩, h ρ H _ Ex.rfl' rp (.bl b)⟩
end
theorem Rep.toS {G : GE} {i : Nat} {a : Addr} {d : Option Addr} {f : Str} {w : W} {hH : G.hold = none} {ρ : List Addr} {p : Hh} {s : S} {H : Hp} (r : Rep G ρ p s H) : Rep (G.inS i a d f w hH) ρ p s H := Rep.chg (G := G) (G' := G.inS i a d f w hH) rfl rfl r
theorem Rep.ofS {G : GE} {i : Nat} {a : Addr} {d : Option Addr} {f : Str} {w : W} {hH : G.hold = none} {ρ : List Addr} {p : Hh} {s : S} {H : Hp} (r : Rep (G.inS i a d f w hH) ρ p s H) : Rep G ρ p s H := Rep.chg (G := G.inS i a d f w hH) (G' := G) rfl rfl r
/-- one clause of the mirror: its class, the classes that are known to be none of it, the slot of its name, its suite by the field's value -/
structure HC where
  cx : Nat
  no : List Nat
  slot : Option Nat
  su : W → Lo → S → RS
def hRun : List HC → Nat → W → Lo → S → RS
  | [], c, w, l, s => .exc c w l s
  | q :: r, c, w, l, s => if c = q.cx then (match q.slot with
      | none => (match q.su w l s with
        | .exc _ _ _ _ => .bad
        | r => r)
      | some i => if i < l.length then (match q.su w (l.set i none) s with
        | .nx l2 s2 => .nx (l2.set i none) s2
        | .brk l2 s2 => .brk (l2.set i none) s2
        | .ct l2 s2 => .ct (l2.set i none) s2
        | .ret w2 s2 => .ret w2 s2
        | _ => .bad) else .bad)
    else if c ∈ q.no then hRun r c w l s else .bad
def sTry (mb : Lo → S → RS) (hs : List HC) : Lo → S → RS := fun l s => match mb l s with
  | .exc c w l1 s1 => hRun hs c w l1 s1
  | r => r
inductive HS (G : GE) (p : Hh) (X : Cx) (k : Nat) (hH : G.hold = none) : List ExceptHandler → List HC → Prop
  | nil : HS G p X k hH [] []
  | bare {x : Str} {cx : Nat} {no : List Nat} {su : W → Lo → S → RS} {b0 : Stmt} {sts : List Stmt} {np pp : Pos} {hs : List ExceptHandler} {l : List HC} (hc : Names X x (.ref (G.cls cx))) (hy : PySem.W.exmOne X.K (.ref (G.cls cx)) (.ref (G.cls cx)) = some true) (hn : ∀ j ∈ no, PySem.W.exmOne X.K (.ref (G.cls j)) (.ref (G.cls cx)) = some false)
      (hsu : ∀ (a : Addr) (oe : Obj) (d : Option Addr) (pn : List (Addr × Obj)) (w : W), Zc (.ref (G.cls cx)) d oe → (∃ vs, oe.data = .fields vs) → Cs (X.suite a ((a, oe) :: pn)) k → SB G p (fun _ _ _ _ => False) (X.suite a ((a, oe) :: pn)) (b0 :: sts) (su w)) (r : HS G p X k hH hs l) : HS G p X k hH (.ExceptHandler (some (.Name x np)) none (b0 :: sts) pp :: hs) (⟨cx, no, none, su⟩ :: l)
  | named {x n f : Str} {i cx : Nat} {no : List Nat} {su : W → Lo → S → RS} {b0 : Stmt} {sts : List Stmt} {np pp : Pos} {hs : List ExceptHandler} {l : List HC} (hc : Names X x (.ref (G.cls cx))) (hy : PySem.W.exmOne X.K (.ref (G.cls cx)) (.ref (G.cls cx)) = some true) (hn : ∀ j ∈ no, PySem.W.exmOne X.K (.ref (G.cls j)) (.ref (G.cls cx)) = some false) (hf : G.fld cx = [f]) (hi : X.N[i]? = some n) (hk : X.env.kindOf n = some .local)
      (hsu : ∀ (a : Addr) (oe : Obj) (d : Option Addr) (pn : List (Addr × Obj)) (w : W), Zc (.ref (G.cls cx)) d oe → (∃ vs, oe.data = .fields vs) → Cs (X.suite a ((a, oe) :: pn)) k → SB (G.inS i a d f w hH) p (fun _ _ _ _ => False) (X.suite a ((a, oe) :: pn)) (b0 :: sts) (su w)) (r : HS G p X k hH hs l) : HS G p X k hH (.ExceptHandler (some (.Name x np)) (some n) (b0 :: sts) pp :: hs) (⟨cx, no, some i, su⟩ :: l)
section
variable {G : GE} {p : Hh} {X : Cx} {E : WX} {k : Nat} {hH : G.hold = none}
theorem hs_way (cs : ∀ a o pn, Cs (X.suite a ((a, o) :: pn)) k) {hds : List ExceptHandler} {hs : List HC} (hh : HS G p X k hH hds hs) : ∃ l : List Cls1, HdN X hds l ∧ ∀ (c : Nat) (w : W) (d : Option Addr) (D : Ends) (ρ : List Addr) (H : Hp) (σ : L2.St) (lo : Lo) (s : S), RL G ρ H lo σ → Rep G ρ p s H → RX G ρ H c w d → PoS G p ρ H (hRun hs c w lo s) D E → wAll X.K E D l (.ref (G.cls c)) d σ H := by
  induction hh with
  | nil => exact ⟨[], .nil, fun c w d D ρ H σ lo s rl rp rx h => h ρ H d σ Ex.rfl' rp rx rl⟩
  | @bare x cx no su b0 sts np pp hs' l' hc hy hn hsu r ih =>
    obtain ⟨l, hl, way⟩ := ih
    refine ⟨⟨.ref (G.cls cx), none, fun a cls d D σ H => ∃ w, cls = .ref (G.cls cx) ∧ tS G p (fun _ _ _ _ => False) (su w) D σ H⟩ :: l, .bare hc (fun a oe cls d pn hz hf => ⟨fun pins s σ H D I ⟨w, e, h⟩ => ?_⟩) hl, fun c w d D ρ H σ lo s rl rp rx h => ?_⟩
    · subst e
      exact (hsu a oe d pn w hz hf (cs a _ _)).run pins s σ H D I h
    · simp only [hRun] at h
      by_cases e : c = cx
      · subst e
        rw [if_pos rfl] at h
        refine ⟨true, hy, fun _ a na => ⟨w, rfl, ρ, lo, s, rl, rp, ?_⟩, fun z => nomatch z⟩
        cases q : su w lo s with
        | exc _ _ _ _ => rw [q] at h; exact h.elim
        | _ => rw [q] at h; exact h
      · rw [if_neg e] at h
        by_cases e2 : c ∈ no
        · rw [if_pos e2] at h
          exact ⟨false, hn c e2, (fun z => nomatch z), fun _ => way c w d D ρ H σ lo s rl rp rx h⟩
        · rw [if_neg e2] at h; exact h.elim
  | @named x n f i cx no su b0 sts np pp hs' l' hc hy hn hf' hi hk hsu r ih =>
    obtain ⟨l, hl, way⟩ := ih
    refine ⟨⟨.ref (G.cls cx), some i, fun a cls d D σ H => ∃ w, cls = .ref (G.cls cx) ∧ tS (G.inS i a d f w hH) p (fun _ _ _ _ => False) (su w) D σ H⟩ :: l, .named hc hi hk (fun a oe cls d pn hz hf => ⟨fun pins s σ H D I ⟨w, e, h⟩ => ?_⟩) hl, fun c w d D ρ H σ lo s rl rp rx h => ?_⟩
    · subst e
      exact (hsu a oe d pn w hz hf (cs a _ _)).run pins s σ H D I h
    · simp only [hRun] at h
      by_cases e : c = cx
      · subst e
        rw [if_pos rfl] at h
        by_cases hlt : i < lo.length
        · rw [if_pos hlt] at h
          unfold RX at rx
          rw [hf'] at rx
          obtain ⟨dd, v, ed, nd, hd, rv⟩ := rx
          have back : ∀ {a : Addr} {ρ' : List Addr} {H' : Hp} {l2 : Lo} {σ' : L2.St}, RL (G.inS i a d f w hH) ρ' H' l2 σ' → RL G ρ' H' (l2.set i none) (σ'.set i none) := fun {a ρ' H' l2 σ'} r => ⟨by simp [r.len], fun j u z => by
            by_cases hj : i = j
            · subst hj
              by_cases hi2 : i < l2.length
              · rw [List.getElem?_set_self hi2] at z; cases z
              · rw [List.getElem?_eq_none (by simpa using hi2)] at z; cases z
            · rw [List.getElem?_set_ne hj] at z
              obtain ⟨v', e1, e2⟩ := r.has j u z
              exact ⟨v', by rw [List.getElem?_set_ne hj]; exact e1, e2.chg⟩, G.js i none (by rw [hH]; intro z; cases z) r.inv.1⟩
          refine ⟨true, hy, fun _ a na => ⟨w, rfl, ρ, lo.set i none, s, ⟨by simp [rl.len], fun j u z => ?_, G.js i _ (by rw [hH]; intro z; cases z) rl.inv, List.getElem?_set_self (by rw [← rl.len]; exact hlt), dd, v, ed, nd, hd, rv⟩, rp.toS, ?_⟩, fun z => nomatch z⟩
          · by_cases hj : i = j
            · subst hj
              rw [List.getElem?_set_self hlt] at z
              cases z
            · rw [List.getElem?_set_ne hj] at z
              obtain ⟨v', e1, e2⟩ := rl.has j u z
              exact ⟨v', by rw [List.getElem?_set_ne hj]; exact e1, e2.chg⟩
          · cases q : su w (lo.set i none) s with
            | nx l2 s2 => rw [q] at h; exact fun ρ' H' σ' x y z => h ρ' H' _ x y.ofS (back z)
            | brk l2 s2 => rw [q] at h; exact fun ρ' H' σ' x y z => h ρ' H' _ x y.ofS (back z)
            | ct l2 s2 => rw [q] at h; exact fun ρ' H' σ' x y z => h ρ' H' _ x y.ofS (back z)
            | ret w2 s2 => rw [q] at h; exact fun ρ' H' v' x y z => h ρ' H' v' x y.ofS z.chg
            | exc _ _ _ _ => rw [q] at h; exact h.elim
            | bad => rw [q] at h; exact h.elim
        · rw [if_neg hlt] at h; exact h.elim
      · rw [if_neg e] at h
        by_cases e2 : c ∈ no
        · rw [if_pos e2] at h
          exact ⟨false, hn c e2, (fun z => nomatch z), fun _ => way c w d D ρ H σ lo s rl rp rx h⟩
        · rw [if_neg e2] at h; exact h.elim
theorem ss_try {body : List Stmt} {h0 : ExceptHandler} {hds : List ExceptHandler} {mb : Lo → S → RS} {hs : List HC} {pos : Pos} (hH : G.hold = none) (cn : Cn X E k) (hst : X.stack = X.env :: X.outer) (hfr : X.env.frame = some X.env.locals)
    (hb : ∀ (W : WX) (pn : List (Addr × Obj)) (xe : Value → Shared → Prop), Cn (X.tr pn xe) W k → SB G p W (X.tr pn xe) body mb) (hh : HS G p X k hH (h0 :: hds) hs) : SS G p E X (.Try body (h0 :: hds) [] [] pos) (sTry mb hs) := by
  obtain ⟨l, hl, way⟩ := hs_way (E := E) (fun a o pn => cs_of cn a o pn) hh
  refine PS_imp (ps_tryN (tb := fun W => tS G p W mb) cn.nd hst hfr cn.tk (fun W pn xe tk own => hb W pn xe ⟨cn.calm, cn.room, tk, own, cn.nd, cn.gd⟩) hl) fun D σ H ⟨ρ, lo, s, rl, rp, h⟩ => ⟨ρ, lo, s, rl, rp, ?_⟩
  unfold sTry at h
  cases q : mb lo s with
  | exc c w l1 s1 =>
    rw [q] at h
    exact fun ρ' H' d σ' x y rx z => way c w d D ρ' H' σ' l1 s1 z y rx (PoS.base h x)
  | _ => rw [q] at h; exact h
end
end CC
set_option Elab.async false
set_option linter.all false
set_option maxRecDepth 100000
/-! CCFacts: what the printed texts ask of the written part -/
namespace CC
open PySem PySem.Spec PyProof.Rows L2

theorem no_nil {P : Nat → Prop} : ∀ j ∈ ([] : List Nat), P j := fun j h => by cases h
theorem no_cons {P : Nat → Prop} {a : Nat} {l : List Nat} (h : P a) (r : ∀ j ∈ l, P j) : ∀ j ∈ a :: l, P j := fun j m => by
  rcases List.mem_cons.mp m with e | m
  · rw [e]; exact h
  · exact r j m
section
variable {K : PySem.W.Frag} {C : Addr}
theorem oex_mk {nm q : Str} {N : Addr} {bs bm : List Value} {sn : List Str} {sub : List Value} {ab : Bool} {col : Option Bool} {dd : Option Addr} {k0 k1 k2 k3 k5 : Option Value} (l : K.lookup C = some (excClassObj nm q C N bs bm true sn sub ab col dd k0 k1 k2 k3 k5 "ValueError.__new__")) (b : PySem.HandSPX.refsVE bm = true)
    (sa : PySem.W.findIn K (.ref C) "__setattr__" = some (some (.builtin "object.__setattr__"))) (exC : PySem.W.subIn K (.ref C) (.type "BaseException") = some true) (tyC : PySem.W.typeIn K (.ref C) = some (.type "type")) (kC : PySem.W.keepIn K (.ref C) = true) : OexC K C :=
  ⟨⟨nm, q, N, bs, bm, sn, sub, ab, col, dd, k0, k1, k2, k3, k5, l, b⟩, sa, exC, tyC, kC⟩
theorem exi_mk (ga : PySem.W.findIn K (.ref C) "__getattribute__" = some (some (.builtin "BaseException.__getattribute__"))) (gg : PySem.W.findIn K (.ref C) "__getattr__" = some none) (ex : PySem.W.subIn K (.ref C) (.type "BaseException") = some true) (hd : PySem.W.hasDictIn K C = true)
    (ha : PySem.W.findIn K (.ref C) "__class__" = some (some (.builtin "object.__class__"))) (hn : PySem.W.specialIn K (.builtin "object.__class__") "__get__" = some (some (.builtin "getset_descriptor.__get__"))) (ht : PySem.W.takesIn K (.builtin "object.__class__") = some true) (hm : PySem.W.mroIn K C (.type "object") = some true) : XfC K C ∧ ExcC K C :=
  ⟨⟨ga, gg, ex, hd⟩, ⟨ga, gg, ex, hd, ha, hn, ht, hm⟩⟩
end
/-- the addresses of the text's classes by their numbers -/
def gcOf : List Addr → Nat → Addr
  | [], _ => 0
  | a :: _, 0 => a
  | _ :: r, n + 1 => gcOf r n
/-- an own exception that may be raised -/
theorem xc_mk {G : GE} {P : Program} {w : World} {K : PySem.W.Frag} {mg : Str → Option Value} {base : Heap} {c : Nat} {x f : Str} {fI : Addr} {fd : FuncData} {ps : List Str} (T : OexC K (G.cls c)) (fl : G.fld c = [f]) (nm : mg x = some (.ref (G.cls c))) (i1 : PySem.W.findIn K (.ref (G.cls c)) "__init__" = some (some (.ref fI))) (i2 : PySem.W.typeIn K (.ref fI) = some (.type "function")) (g : FnG P w K mg base 1 fI fd ps (spX K (G.cls c) f)) (b : Binds K fd ps []) : XC G P w K mg base c x f :=
  ⟨T, fl, nm, fI, fd, ps, i1, i2, g, b⟩
end CC
set_option Elab.async false
set_option linter.all false
set_option maxRecDepth 100000
set_option maxHeartbeats 2000000
/-! CCIsi2: isinstance(x, (A, B)) for built-in classes A, B -/
namespace CC
open PySem PySem.Spec PyProof.Rows L2
def qOr (q1 q2 : TK → Option Bool) : TK → Option Bool := fun t => match q1 t, q2 t with
  | some a, some b => some (a || b)
  | _, _ => none
theorem qOr_ok {q1 q2 : TK → Option Bool} {t : TK} {b : Bool} (h : qOr q1 q2 t = some b) : ∃ a c, q1 t = some a ∧ q2 t = some c ∧ b = (a || c) := by
  unfold qOr at h
  cases e1 : q1 t with
  | none => rw [e1] at h; cases h
  | some a =>
    cases e2 : q2 t with
    | none => rw [e1, e2] at h; cases h
    | some c => rw [e1, e2] at h; cases h; exact ⟨a, c, rfl, rfl, rfl⟩
section
variable {G : GE} {X : Cx} {p : Hh} {E : WX} {a : Expr} {ma : Lo → S → R W} {pos p' : Pos}
theorem se_isi2 {q1 q2 : TK → Option Bool} {T1 T2 : String} {x1 x2 : Str} {r1 r2 tp : Pos} {cx} (F1 : QI G X.K (.type T1) q1) (F2 : QI G X.K (.type T2) q2) (hm : X.mg "isinstance" = none) (hm1 : X.mg x1 = none) (hm2 : X.mg x2 = none) (ha : SE G p E X a ma)
    (hv1 : bootBuiltins x1 = some (.type T1) := by decide +kernel) (hv2 : bootBuiltins x2 = some (.type T2) := by decide +kernel) (hg1 : Gl X x1 := by rfl) (hg2 : Gl X x2 := by rfl) (hn1 : x1 ≠ "__name__" := by decide) (hn2 : x2 ≠ "__name__" := by decide) (hd1 : (x1 == ("__debug__" : Str)) = false := by decide) (hd2 : (x2 == ("__debug__" : Str)) = false := by decide) (hg : Gl X "isinstance" := by rfl)
    (hs : starEach (a :: [.Tuple [.Name x1 r1, .Name x2 r2] cx tp]) X.env = (false, eval a X.env) :: starEach [.Tuple [.Name x1 r1, .Name x2 r2] cx tp] X.env := by rfl) (hs2 : starEach (.Tuple [.Name x1 r1, .Name x2 r2] cx tp :: []) X.env = (false, eval (.Tuple [.Name x1 r1, .Name x2 r2] cx tp) X.env) :: starEach [] X.env := by rfl)
    (hs3 : starEach (.Name x1 r1 :: [.Name x2 r2]) X.env = (false, eval (.Name x1 r1) X.env) :: starEach [.Name x2 r2] X.env := by rfl) (hs4 : starEach (.Name x2 r2 :: []) X.env = (false, eval (.Name x2 r2) X.env) :: starEach [] X.env := by rfl)
    (hpl : (backTo pos (starEach [.Tuple [.Name x1 r1, .Name x2 r2] cx tp] X.env)).any (·.1) = false := by rfl) : SE G p E X (.Call (.Name "isinstance" p') [a, .Tuple [.Name x1 r1, .Name x2 r2] cx tp] [] pos) (eIsi p (qOr q1 q2) ma) :=
  PE_imp (pe_callB (x := "isinstance") call_isiT hg hm (by decide +kernel) (pa_cons ha (pa_cons (pe_tup (pa_cons (pe_bltn (v := .ty T1) hg1 hm1 hv1 rfl hn1 hd1) (pa_cons (pe_bltn (v := .ty T2) hg2 hm2 hv2 rfl hn2 hd2) pa_nil hs4) hs3)) pa_nil hs2) hs) (by decide) (by decide) hs hpl) fun σ H Q ⟨ρ, l, s, rl, rp, h⟩ => by
    unfold eIsi at h
    refine ⟨ρ, l, s, rl, rp, PoA.bind h fun w s1 ρ1 H1 v x1 rp1 rv1 h1 => ?_⟩
    cases z : tyW p s1 w with
    | none => rw [z] at h1; exact h1.elim
    | some t =>
      rw [z] at h1
      dsimp only at h1
      cases z2 : qOr q1 q2 t with
      | none => rw [z2] at h1; exact h1.elim
      | some b =>
        rw [z2] at h1
        obtain ⟨b1, b2, e1, e2, rfl⟩ := qOr_ok z2
        refine ⟨million (by show 2 ≤ 1000000; decide), fun q hq => ?_⟩
        refine ⟨v, q, [V.ty T1, V.ty T2], tyVal G t, [.type T1, .type T2], b1 || b2, rfl, upd_same, .cons (.ty T1) (.cons (.ty T2) .nil), ty_of F1 (rp1.fresh hq) (rv1.mono (Ex.fresh rp1 hq)) z e1, ?_, h1 ρ1 _ _ (Ex.fresh rp1 hq) (rp1.fresh hq) (.bl _)⟩
        refine kitAny_cons (F1.an t b1 e1) (fun hb => ?_) (fun hb => by rw [hb]; rfl)
        rw [hb, Bool.false_or]
        refine kitAny_cons (F2.an t b2 e2) (fun hb => ?_) (fun hb => hb)
        rw [hb]; exact kitAny_nil
end
end CC
set_option Elab.async false
set_option linter.all false
set_option maxRecDepth 100000
set_option maxHeartbeats 2000000
/-! CCDisp: {k: v}, one entry, the key an int or a text -/
namespace CC
open PySem PySem.Spec PyProof.Rows L2
def fillD (p : Hh) (n : Nat) (kw w : W) (s : S) : R W := match keyW kw, rd p s n with
  | some k, some (.dct []) => .ok (.ref n) (wr p s n (.dct [(k, w)]))
  | _, _ => .bad
def eDis1 (p : Hh) (mk mv : Lo → S → R W) : Lo → S → R W := fun l s => (mk l (al s (.dct []))).bind fun kw s1 => (mv l s1).bind fun w s2 => fillD p (nxt p s) kw w s2
section
variable {G : GE} {X : Cx} {p : Hh} {E : WX} {a b : Expr} {mk mv : Lo → S → R W} {pos : Pos}
theorem se_dis1 (ha : SE G p E X a mk) (hb : SE G p E X b mv) : SE G p E X (.Dict [some a] [b] pos) (eDis1 p mk mv) :=
  PE_imp (pe_disp (pps_cons ha hb pps_nil) (by rfl) (by rfl) (by simp) (by show 1 ≤ 15; decide)) fun σ H Q ⟨ρ, l, s, rl, rp, h⟩ => by
    intro q hq
    have x : Ex ρ H (ρ ++ [q]) (upd H q (.dK [])) := Ex.al rp hq
    obtain ⟨_, r2, r3⟩ := rp.al_ (o := .dct []) (u := .dK []) hq (.dK rfl .nil)
    have eq0 : (ρ ++ [q])[nxt p s]? = some q := by rw [← rp.len]; simp
    unfold eDis1 at h
    refine ⟨ρ ++ [q], l, al s (.dct []), rl.mono x, r2, PoA.bind (PoA.base h x) fun kw s1 ρ1 H1 kv x1 rp1 rv1 h1 => ⟨ρ1, l, s1, (rl.mono x).mono x1, rp1, PoA.bind h1 fun w s2 ρ2 H2 v x2 rp2 rv2 h2 => ?_⟩⟩
    have pre : ∀ {ρa ρb : List Addr} {Ha Hb : Hp} {i : Nat} {c : Addr}, Ex ρa Ha ρb Hb → ρa[i]? = some c → ρb[i]? = some c := fun xx e => by
      obtain ⟨r, rfl⟩ := xx.pre
      rw [List.getElem?_append_left (List.getElem?_eq_some_iff.mp e).1]; exact e
    have eq2 : ρ2[nxt p s]? = some q := pre x2 (pre x1 eq0)
    unfold fillD at h2
    cases z : keyW kw with
    | none => rw [z] at h2; exact h2.elim
    | some k =>
      cases z2 : rd p s2 (nxt p s) with
      | none => rw [z, z2] at h2; exact h2.elim
      | some o =>
        rw [z, z2] at h2
        obtain ⟨u, hu, ro⟩ := rp2.at z2 eq2
        cases ro with
        | @dK kvs ks rr rr2 =>
          cases kvs with
          | cons c cs => exact h2.elim
          | nil =>
            have : ks = [] := by
              have := congrArg List.length rr
              simp at this
              exact List.length_eq_zero_iff.mp this.symm
            subst this
            have ek := key_ok rv1 z
            subst ek
            have hw := rp2.wr_ (o := .dct [(k, w)]) (u := .dK [(k, v)]) eq2 (.dK rfl (.cons (rv2.mono ?x) .nil))
            case x => exact ⟨⟨[], by simp⟩, fun _ h n => absurd h n, fun b o n h => by
              have nb : b ≠ q := fun z => n (by rw [z]; exact List.mem_of_getElem? eq2)
              rw [upd_ne nb]; exact h⟩
            exact ⟨hu, [(k, v)], rfl, by show 1 ≤ 15; decide, h2 _ _ _ hw.1 hw.2 (.ref eq2)⟩
        | _ => exact h2.elim
end
end CC
set_option Elab.async false
set_option linter.all false
set_option maxRecDepth 100000
set_option maxHeartbeats 2000000
/-! CCIdx: xs.index(i), xs.count(i), a list of ints -/
namespace CC
open PySem PySem.Spec PyProof.Rows L2
def ixFst (i : Int) : List Int → Option Nat
  | [] => none
  | a :: r => if a = i then some 0 else (ixFst i r).map (· + 1)
theorem ixFst_ok {i : Int} : ∀ {ns : List Int} {j : Nat}, ixFst i ns = some j → ns[j]? = some i ∧ ∀ (m : Nat) (z : Int), m < j → ns[m]? = some z → z ≠ i
  | [], j, h => by cases h
  | a :: r, j, h => by
    unfold ixFst at h
    split at h
    · rename_i e
      cases h
      exact ⟨by rw [e]; rfl, fun m z hm => absurd hm (by omega)⟩
    · rename_i e
      cases q : ixFst i r with
      | none => rw [q] at h; cases h
      | some k =>
        rw [q] at h
        cases h
        obtain ⟨h1, h2⟩ := ixFst_ok q
        refine ⟨by simpa using h1, fun m z hm hz => ?_⟩
        cases m with
        | zero => simp at hz; rw [← hz]; exact e
        | succ m => exact h2 m z (by have : m + 1 < k + 1 := hm; omega) (by simpa using hz)
def cellNs (p : Hh) (s : S) (o : W) : Option (List Int) := match cellL p s o with
  | some ws => isInts ws
  | none => none
def fIndex (p : Hh) (o : W) (xs : List W) (s : S) : O2 := match xs with
  | [.int i] => (match cellNs p s o with
    | some ns => (match ixFst i ns with | some j => some (.int (j : Nat), s) | none => none)
    | none => none)
  | _ => none
def fCount (p : Hh) (o : W) (xs : List W) (s : S) : O2 := match xs with
  | [.int i] => (match cellNs p s o with
    | some ns => some (.int (ns.count i : Nat), s)
    | none => none)
  | _ => none
section
variable {G : GE} {X : Cx} {ρ : List Addr} {H : Hp} {p : Hh} {s : S}
theorem cellNs_at {K : PySem.W.Frag} {w : W} {v : V} {ns : List Int} (rp : Rep G ρ p s H) (rv : RV G ρ H w v) (h : cellNs p s w = some ns) : ∃ a, v = .ref a ∧ SqL K H a (ns.map V.int) := by
  unfold cellNs at h
  cases z : cellL p s w with
  | none => rw [z] at h; cases h
  | some ws =>
    rw [z] at h
    obtain ⟨a, vs, rfl, r, hs⟩ := cellL_at (K := K) rp rv z
    rw [isInts_ok h r] at hs
    exact ⟨a, rfl, hs⟩
theorem m_index : MtI G X "list.index" fIndex := mtI_of mt_index fun p ρ s H w ws v vs Q rp r1 r2 h => by
  unfold fIndex at h
  split at h
  · rename_i i
    cases r2 with | cons q1 q2 =>
    cases q1
    cases q2
    cases z : cellNs p s w with
    | none => rw [z] at h; exact h.elim
    | some ns =>
      rw [z] at h
      dsimp only at h
      cases z2 : ixFst i ns with
      | none => rw [z2] at h; exact h.elim
      | some j =>
        rw [z2] at h
        obtain ⟨a, rfl, hs⟩ := cellNs_at (K := X.K) rp r1 z
        obtain ⟨h1, h2⟩ := ixFst_ok z2
        refine ⟨a, ns.map V.int, .int i, j, .int i, rfl, rfl, hs, rfl, by rw [List.all_map]; exact List.all_eq_true.mpr fun _ _ => rfl, by rw [List.getElem?_map, h1]; rfl, by simp [eqV], fun m z' hm hz => ?_, po_v h rp (.int _)⟩
        rw [List.getElem?_map] at hz
        cases z3 : ns[m]? with
        | none => rw [z3] at hz; cases hz
        | some b =>
          rw [z3] at hz
          cases hz
          have := h2 m b hm z3
          simp [eqV, this]
  · exact h.elim
theorem m_count : MtI G X "list.count" fCount := mtI_of mt_lcount fun p ρ s H w ws v vs Q rp r1 r2 h => by
  unfold fCount at h
  split at h
  · rename_i i
    cases r2 with | cons q1 q2 =>
    cases q1
    cases q2
    cases z : cellNs p s w with
    | none => rw [z] at h; exact h.elim
    | some ns =>
      rw [z] at h
      obtain ⟨a, rfl, hs⟩ := cellNs_at (K := X.K) rp r1 z
      exact ⟨a, ns, i, rfl, rfl, hs, po_v h rp (.int _)⟩
  · exact h.elim
end
end CC
set_option Elab.async false
set_option linter.all false
set_option maxRecDepth 100000
/-! CCX: small things for the printed texts -/
namespace CC
open PySem PySem.Spec PyProof.Rows L2
theorem Cn.e0 {X : Cx} {E : WX} {k : Nat} (cn : Cn X E k) : Cn X (fun _ _ _ _ => False) k := ⟨cn.calm, cn.room, cn.tk.imp fun _ _ _ _ h => h.elim, cn.own, cn.nd, cn.gd⟩
end CC
set_option Elab.async false
set_option linter.all false
set_option maxRecDepth 100000
/-! CCNe: != by an own __eq__ -/
namespace CC
open PySem PySem.Spec PyProof.Rows L2
section
variable {prog : Program} {w : World} {A : Around} {E : Value → Shared → Prop} {s : Shared} {K : PySem.W.Frag} {x y C L f : Addr} {h₀ : Heap} {m : PySem.Str → Option Value} {ox oy : Obj} {od od' : Option Obj}
theorem ne_in {Q : Fin → Shared → Prop} (hu : A.units < cLine) (X : K.In s.heap) (I : PySem.W.InstAt s.heap x ox C od) (hs : PySem.W.findIn K (.ref C) "__eq__" = some (some (.ref f))) (hf : PySem.W.isFn K (.ref f) = true)
    (hcall : wpAny (model prog w) A (call (.ref f) [.ref x, .ref y]) (fun v s' => ∃ b, v = .bool b ∧ Q (.done (.ret (.bool (!b)))) s') E s) :
    wpAny (model prog w) A (Builtin.«object.__ne__» ⟨[.ref x, .ref y], []⟩) Q E s := by
  -- what the own __eq__ answers, turned round
  have key : wpAny (model prog w) A (callSpecialIfBound? (.ref x) (Str.ofString "__eq__") [.ref y]) (fun r s' => ∃ b, r = some (.bool b) ∧ Q (.done (.ret (.bool (!b)))) s') E s :=
    PySem.W.ifBound_K X I hs hf (wpAny_mono hcall (fun r s' ⟨b, e, hq⟩ => ⟨b, congrArg some e, hq⟩) fun _ _ e => e)
  obtain ⟨h, g, d, t, os⟩ := s
  delta Builtin.«object.__ne__»
  repeat (first | (with_reducible refine wpAny_cRoomFor hu ?_) | (refine wpAny_bind (wpAny_mono key (fun r s' hr => ?_) fun _ _ e => e); obtain ⟨b, rfl, hq⟩ := hr) | wp_step)
  all_goals repeat (first | assumption | exact wpAny_pure hq | (refine wpAny_bind (m := truthy (.bool _)) ?_; exact wpAny_truthy_bool (wpAny_pure hq)) | wp_step)
theorem cmp_ne {Q : Value → Shared → Prop} (hu : A.units + 1 < cLine) (F : Fr h₀ L s.heap m) (X₀ : K.In h₀) (I : PySem.W.InstAt s.heap x ox C od) (J : PySem.W.InstAt s.heap y oy C od')
    (hn : PySem.W.findIn K (.ref C) "__ne__" = some (some (.builtin "object.__ne__"))) (hs : PySem.W.findIn K (.ref C) "__eq__" = some (some (.ref f))) (hf : PySem.W.isFn K (.ref f) = true) (ho : PySem.W.mroIn K C (.type "object") = some true)
    (h : wpAny (model prog w) A.in1 (call (.ref f) [.ref x, .ref y]) (fun v s' => ∃ b, v = .bool b ∧ Q (.bool (!b)) s') E s) : wpAny (model prog w) A (richCompare .NotEq (.ref x) (.ref y)) Q E s := by
  have X := X₀.keeps F.keep
  have tv : PySem.W.Looks (model prog w) s.heap (typeOf (.ref x)) (.ref C) := I.type
  have sp : PySem.W.Looks (model prog w) s.heap (specialOf (.ref x) "__ne__") (some (.builtin "object.__ne__")) := tv.andThen (PySem.W.looks_findIn X hn)
  have iv : PySem.W.Looks (model prog w) s.heap (isInstance (.ref x) (.type "object")) true := tv.andThen (PySem.W.looks_mroIn X ho)
  have one : wpAny (model prog w) A (tryCompare (.ref x) "__ne__" (.ref y)) (fun r s' => ∃ v, r = some v ∧ Q v s') E s := by
    unfold tryCompare
    refine wpAny_bind (NtL.csib sp (PySem.F.cmp_object.ne.bind _) ?_)
    refine wpAny_call (codeAny_call_builtin PySem.F.cmp_object.ne.plain PySem.F.cmpEntry_ne (@PySem.W.check_slot (model prog w) _ _ _ "object.__ne__" "object" "__ne__" (.ref x) [.ref y] [] _ PySem.F.cmpKind_ne PySem.F.cmpSplit_ne iv (PySem.F.cmpArgs_ne _ _) ?_))
    refine ne_in hu X I hs hf (wpAny_mono h (fun v s' hv => ?_) fun _ _ e => e)
    obtain ⟨b, rfl, hq⟩ := hv
    first | exact ⟨b, rfl, wpAny_pure ⟨_, rfl, hq⟩⟩ | exact ⟨b, rfl, wpAny_pure (wpAny_pure ⟨_, rfl, hq⟩)⟩ | exact ⟨b, rfl, ⟨_, rfl, hq⟩⟩
  unfold richCompare
  simp only [oneThing_ref]
  refine wpAny_holding (wpAny_bind (wpAny_cRoomFor (Nat.lt_of_succ_lt hu) ?_))
  refine wpAny_bind (I.type.here (wpAny_bind (J.type.here ?_)))
  have same : (Value.ref C != Value.ref C) = false := by simp
  rw [same]
  simp only [if_false, Bool.false_eq_true]
  refine wpAny_bind (wpAny_pure (by
  simp only [if_false, Bool.false_eq_true]
  refine wpAny_bind (wpAny_mono one ?_ fun _ _ e => e)
  rintro r s' ⟨v, rfl, hq⟩
  exact wpAny_pure hq))
end
def gNeO (c : Nat) (Fm : Hh → List W → R W) (p : Hh) (x y : W) (s : S) : O2 := match isC p s c x with
  | false => gNe p x y s
  | true => (match isC p s c y with
    | false => none
    | true => (match callF Fm p [x, y] s with
      | .ok (.bl b) s' => some (.bl (!b), s')
      | _ => none))
section
variable {G : GE} {X : Cx} {k c : Nat} {f : Addr} {Fm : Hh → List W → R W} {E : WX}
theorem i_neO (FF : FC G X.prog X.w X.K X.mg X.base k f Fm []) (cn : Cn X E (k + 1)) (hn : PySem.W.findIn X.K (.ref (G.cls c)) "__ne__" = some (some (.builtin "object.__ne__"))) (ho : PySem.W.mroIn X.K (G.cls c) (.type "object") = some true) (hs : PySem.W.findIn X.K (.ref (G.cls c)) "__eq__" = some (some (.ref f))) (hf : PySem.W.isFn X.K (.ref f) = true) : OpI G X (compareOp .NotEq) (gNeO c Fm) := by
  intro p pins s σ H v u v' u' Q I rv ru ⟨ρ, s0, x, y, rp, r1, r2, q⟩
  unfold gNeO at q
  cases e1 : isC p s0 c x with
  | false => rw [e1] at q; exact i_ne cn.u64 p pins s σ H v u v' u' Q I rv ru ⟨ρ, s0, x, y, rp, r1, r2, q⟩
  | true =>
    rw [e1] at q
    cases e2 : isC p s0 c y with
    | false => rw [e2] at q; exact q.elim
    | true =>
      rw [e2] at q
      dsimp only at q
      obtain ⟨a, dx, gs, rfl, ha, _⟩ := obj_at rp r1 e1
      obtain ⟨b, dy, gs', rfl, hb, _⟩ := obj_at rp r2 e2
      cases rv
      cases ru
      obtain ⟨mA, J, _⟩ := ins_get I.hok ha
      obtain ⟨mB, J', _⟩ := ins_get I.hok hb
      obtain ⟨od, J, _⟩ := J.look
      obtain ⟨od', J', _⟩ := J'.look
      obtain ⟨m, hF⟩ := I.fr
      show wpAny (model X.prog X.w) X.A (richCompare .NotEq (.ref a) (.ref b)) (EP X pins σ Q) X.xe s
      refine cmp_ne cn.u1 hF I.ok.mod.kin J J' hn hs hf ho ?_
      obtain ⟨fd, ps, dvs, ds, F, bnd, hd, rdf⟩ := FF.ex
      have rdn := rdf ρ H
      cases rdn
      cases hd
      have hz : spI G Fm ([.ref a, .ref b] ++ []) H (fun v H' => ∃ b, v = .bl b ∧ Q (.bl (!b)) H') (fun _ _ _ => False) := sp_of (.cons r1 (.cons r2 .nil)) rp ?_
      · have rr : Vals [V.ref a, V.ref b] [Value.ref a, Value.ref b] := .cons rfl (.cons rfl .nil)
        have go := F.run X.A.in1 X.stack s H ⟨[.ref a, .ref b], []⟩ [.ref a, .ref b] [.ref a, .ref b] (fun v H' => ∃ b, v = .bl b ∧ Q (.bl (!b)) H') (fun _ _ _ => False) ⟨cn.room.hd, by have := cn.room.dp; show X.A.depth + 3 * k + 5 < _; omega, by have := cn.room.un; show X.A.units + 1 + 16 * k + 200 < _; omega⟩ cn.gd I.env0.in1 (bnd s _ I.kIn (by have := F.len _ _ _ _ hz; simpa using this)) rr hz
        refine wpAny_call (codeAny_mono go fun r s' hq => ?_)
        match r, hq with
        | .error e, hq =>
          obtain ⟨_, _, _, _, _, _, _, _, _, _, _, _, z⟩ := hq
          exact z.elim
        | .ok (.ret u), hq =>
          obtain ⟨v, H', J3, rv, b, rfl, hq2⟩ := I.after hq
          obtain rfl : u = Value.bool b := rv
          exact ⟨b, rfl, ⟨.bl (!b), H', J3, rfl, hq2⟩⟩
        | .ok .next, hq => exact hq.elim
        | .ok .brk, hq => exact hq.elim
        | .ok .cont, hq => exact hq.elim
      · cases e3 : callF Fm p [x, y] s0 with
        | ok w s' =>
          rw [e3] at q
          cases w with
          | bl b =>
            intro ρ' H' v' y' rp' rv'
            cases rv'
            exact ⟨b, rfl, q ρ' H' _ y' rp' (.bl (!b))⟩
          | _ => exact q.elim
        | exc _ _ _ => rw [e3] at q; exact q.elim
        | bad => rw [e3] at q; exact q.elim
end
end CC
set_option Elab.async false
set_option linter.all false
set_option maxRecDepth 100000
set_option maxHeartbeats 2000000
/-! CCSort: sorted of ints, of tuples of ints, of tuples with first ints that differ -/
namespace CC
open PySem PySem.Spec PyProof.Rows L2
/-! ### lists of ints in their order -/
def lexL : List Int → List Int → Bool
  | [], [] => false
  | [], _ :: _ => true
  | _ :: _, [] => false
  | a :: r, b :: t => if a = b then lexL r t else decide (a < b)
theorem lexL_asym : ∀ x y : List Int, lexL x y = true → lexL y x = false
  | [], [], h => by cases h
  | [], _ :: _, _ => rfl
  | _ :: _, [], h => by cases h
  | a :: r, b :: t, h => by
    unfold lexL at h ⊢
    by_cases e : a = b
    · rw [if_pos e] at h
      rw [if_pos e.symm]
      exact lexL_asym r t h
    · rw [if_neg e] at h
      rw [if_neg (fun z => e z.symm)]
      have := of_decide_eq_true h
      exact decide_eq_false (by omega)
theorem lexL_tr : ∀ x y z : List Int, lexL y x = false → lexL z y = false → lexL z x = false
  | [], [], z, _, h => h
  | [], _ :: _, [], _, h => by cases h
  | [], _ :: _, _ :: _, _, _ => rfl
  | _ :: _, [], _, h, _ => by cases h
  | _ :: _, _ :: _, [], _, h => by cases h
  | a :: r, b :: t, c :: u, h1, h2 => by
    unfold lexL at h1 h2 ⊢
    by_cases e1 : b = a
    · rw [if_pos e1] at h1
      by_cases e2 : c = b
      · rw [if_pos e2] at h2
        rw [if_pos (e2.trans e1)]
        exact lexL_tr r t u h1 h2
      · rw [if_neg e2] at h2
        rw [if_neg (fun z => e2 (z.trans e1.symm))]
        have := of_decide_eq_false h2
        exact decide_eq_false (by omega)
    · rw [if_neg e1] at h1
      have := of_decide_eq_false h1
      by_cases e2 : c = b
      · rw [if_neg (fun z => e1 (e2.symm.trans z))]
        exact decide_eq_false (by omega)
      · rw [if_neg e2] at h2
        have := of_decide_eq_false h2
        rw [if_neg (fun z => by omega)]
        exact decide_eq_false (by omega)
section
variable {α β : Type} (k : α → List Int)
abbrev ltK (x y : α) : Bool := lexL (k x) (k y)
theorem ltK_swo : SrtO.Swo (ltK k) := ⟨fun x y h => lexL_asym _ _ h, fun x y z h1 h2 => lexL_tr _ _ _ h1 h2⟩
def insB (x : α) : List α → List α
  | [] => [x]
  | y :: l => cond (lexL (k y) (k x)) (y :: insB x l) (x :: y :: l)
def srtB : List α → List α
  | [] => []
  | x :: l => insB k x (srtB l)
variable {k}
theorem insB_mem {x z : α} : ∀ {l : List α}, z ∈ insB k x l → z = x ∨ z ∈ l
  | [], h => .inl (List.mem_singleton.mp h)
  | y :: l, h => by
    unfold insB at h
    cases e : lexL (k y) (k x) with
    | true =>
      rw [e] at h
      rcases List.mem_cons.mp h with h | h
      · exact .inr (by rw [h]; exact List.mem_cons_self)
      · exact (insB_mem h).imp id (List.mem_cons_of_mem _)
    | false =>
      rw [e] at h
      exact (List.mem_cons.mp h)
theorem insB_srtd {x : α} : ∀ {l : List α}, SrtO.Srtd (ltK k) l → SrtO.Srtd (ltK k) (insB k x l)
  | [], _ => SrtO.srtd_one x
  | y :: l, h => by
    unfold insB
    cases e : lexL (k y) (k x) with
    | true =>
      refine List.pairwise_cons.mpr ⟨fun z hz => ?_, insB_srtd (List.pairwise_cons.mp h).2⟩
      rcases insB_mem hz with rfl | hz
      · exact lexL_asym _ _ e
      · exact (List.pairwise_cons.mp h).1 z hz
    | false =>
      refine List.pairwise_cons.mpr ⟨fun z hz => ?_, h⟩
      rcases List.mem_cons.mp hz with rfl | hz
      · exact e
      · exact lexL_tr _ _ _ e ((List.pairwise_cons.mp h).1 z hz)
theorem srtB_srtd : ∀ l : List α, SrtO.Srtd (ltK k) (srtB k l)
  | [] => List.Pairwise.nil
  | x :: l => insB_srtd (srtB_srtd l)
theorem insB_stb {x : α} : ∀ l : List α, SrtO.Stb (ltK k) (insB k x l) (x :: l)
  | [] => SrtO.Stb.refl _
  | y :: l => by
    unfold insB
    cases e : lexL (k y) (k x) with
    | true =>
      have h1 : SrtO.Stb (ltK k) ([y] ++ insB k x l) ([y] ++ (x :: l)) := (SrtO.Stb.refl [y]).app (insB_stb l)
      have h2 : SrtO.Stb (ltK k) ([y] ++ [x]) ([x] ++ [y]) := SrtO.Stb.swap (ltK_swo k) fun a ha b hb => by
        rw [List.mem_singleton.mp ha, List.mem_singleton.mp hb]; exact e
      exact h1.trans (h2.app (SrtO.Stb.refl l))
    | false => exact SrtO.Stb.refl _
theorem srtB_stb : ∀ l : List α, SrtO.Stb (ltK k) (srtB k l) l
  | [] => SrtO.Stb.refl _
  | x :: l => (insB_stb _).trans ((SrtO.Stb.refl [x]).app (srtB_stb l))
end
/-! ### two lists, item by item -/
inductive Rl2 {α β : Type} (R : α → β → Prop) : List α → List β → Prop
  | nil : Rl2 R [] []
  | cons {a : α} {b : β} {l : List α} {m : List β} (h : R a b) (r : Rl2 R l m) : Rl2 R (a :: l) (b :: m)
theorem Rl2.ins {α β : Type} {R : α → β → Prop} {k : α → List Int} {k' : β → List Int} (hk : ∀ a b, R a b → k a = k' b) {x : α} {y : β} (h : R x y) : ∀ {l : List α} {m : List β}, Rl2 R l m → Rl2 R (insB k x l) (insB k' y m)
  | _, _, .nil => .cons h .nil
  | a :: l, b :: m, .cons q r => by
    unfold insB
    rw [hk _ _ q, hk _ _ h]
    cases lexL (k' b) (k' y) with
    | true => exact .cons q (Rl2.ins hk h r)
    | false => exact .cons h (.cons q r)
theorem Rl2.srt {α β : Type} {R : α → β → Prop} {k : α → List Int} {k' : β → List Int} (hk : ∀ a b, R a b → k a = k' b) : ∀ {l : List α} {m : List β}, Rl2 R l m → Rl2 R (srtB k l) (srtB k' m)
  | _, _, .nil => .nil
  | _, _, .cons h r => Rl2.ins hk h (Rl2.srt hk r)
/-! ### tuples in the heap -/
def IsTupV (h : Heap) (v : Value) (xs : List Value) : Prop := ∃ a o its n, v = .ref a ∧ h.get? a = some o ∧ o.cls = .type "tuple" ∧ o.data = .seq its n ∧ its.toList = xs
theorem IsTupV.keeps {h h' : Heap} {v : Value} {xs : List Value} (p : IsTupV h v xs) (k : ∀ b o, h.get? b = some o → o.cls = .type "tuple" → h'.get? b = some o) : IsTupV h' v xs := by
  obtain ⟨a, o, its, n, e, ho, hc, hd⟩ := p
  exact ⟨a, o, its, n, e, k _ _ ho hc, hc, hd⟩
/-- the items of two tuples, compared -/
def cmpV : List Value → List Value → Bool → Prop
  | [], [], b => b = false
  | [], _ :: _, b => b = true
  | _ :: _, [], b => b = false
  | .int i _ :: r, .int j _ :: t, b => if i = j then cmpV r t b else b = decide (i < j)
  | .ref a :: r, .ref c :: t, b => a = c ∧ cmpV r t b
  | _, _, _ => False
section
open Srt SrtO
variable {prog : Program} {w : World} {A : Around} {E : Value → Shared → Prop} {s : Shared}
theorem lex_cmpV {fin b : Bool} : ∀ (xs ys : List Value) (i : Nat), fin = decide (xs.length < ys.length) → cmpV xs ys b → PySem.W.KatLex prog w A true fin (fun r s' => s' = s ∧ r = b) (xs.zip ys) i s
  | [], [], i, hf, h => by
    refine PySem.W.kat_nil ⟨rfl, ?_⟩
    rw [hf, show b = false from h]; rfl
  | [], _ :: _, i, hf, h => by
    refine PySem.W.kat_nil ⟨rfl, ?_⟩
    rw [hf, show b = true from h]; simp
  | _ :: _, [], i, hf, h => by
    refine PySem.W.kat_nil ⟨rfl, ?_⟩
    rw [hf, show b = false from by unfold cmpV at h; exact h]; simp
  | x :: r, y :: t, i, hf, h => by
    have hf' : fin = decide (r.length < t.length) := by rw [hf]; simp
    cases x <;> cases y <;> first | exact False.elim h | skip
    case int.int i' t' j' u' =>
      have h : if i' = j' then cmpV r t b else b = decide (i' < j') := h
      refine PySem.W.kat_cons (SeqAt.EqAt.int_int i' t' j' u' prog w _ _ ?_)
      refine PySem.W.kat_go (fun e => ?_) (fun e => ?_)
      · have ex : i' = j' := by simpa using e
        rw [if_pos ex] at h
        exact PySem.W.kat_yes (lex_cmpV r t (i + 1) hf' h)
      · have ex : ¬ i' = j' := by simpa using e
        rw [if_neg ex] at h
        refine PySem.W.kat_no ?_
        cases (true && i == 0) with
        | true => exact oneLt_int ⟨rfl, h.symm⟩
        | false => exact PySem.W.kat_one _ _ (PyProof.Rows.lt_int (Q := PySem.W.BoolBack (fun r s' => s' = s ∧ r = b)) ⟨rfl, h.symm⟩)
    case ref.ref a' c' =>
      have h : a' = c' ∧ cmpV r t b := h
      obtain ⟨e, h2⟩ := h
      subst e
      refine PySem.W.kat_cons (SeqAt.EqAt.same (.ref a') prog w _ _ ?_)
      exact PySem.W.kat_yes (lex_cmpV r t (i + 1) hf' h2)
structure TupsOk (h : Heap) (vs : List Value) (it : Value → List Value) (k : Value → List Int) : Prop where
  tup : ∀ v ∈ vs, IsTupV h v (it v)
  fst : ∀ v ∈ vs, ∃ i t r, it v = .int i t :: r
  cmp : ∀ v ∈ vs, ∀ u ∈ vs, cmpV (it v) (it u) (lexL (k v) (k u))
theorem TupsOk.cmpK {vs : List Value} {it : Value → List Value} {k : Value → List Int} (T : TupsOk s.heap vs it k) : Cmp prog w A s (tuples' true) (fun p => p.1 ∈ vs) (lt2 (ltK k)) := by
  intro p q hm hm'
  have h1 := T.tup _ hm
  have h2 := T.tup _ hm'
  have h3 := T.cmp _ hm _ hm'
  show wpAny (model prog w) A (keyLt' (tuples' true) p.1 q.1) (fun r s' => s' = s ∧ r = lexL (k p.1) (k q.1)) (fun _ _ => False) s
  obtain ⟨a, o, xs, n, e, ho, hc, hd, e1⟩ := h1
  obtain ⟨a', o', ys, n', e', ho', hc', hd', e2⟩ := h2
  rw [← e1, ← e2] at h3
  generalize lexL (k p.1) (k q.1) = b at h3 ⊢
  rw [e, e']
  exact PySem.W.kat_lt ho hd ho' hd' (lex_cmpV _ _ 0 (by simp) h3)
theorem TupsOk.firsts {h : Heap} {it : Value → List Value} : ∀ {vs : List Value}, (∀ v ∈ vs, IsTupV h v (it v)) → (∀ v ∈ vs, ∃ i t r, it v = .int i t :: r) → ∃ fs : List Value, PySem.W.KatTups h vs fs ∧ fs.length = vs.length ∧ ∀ f ∈ fs, ∃ x t, f = Value.int x t
  | [], _, _ => ⟨[], PySem.W.KatTups.nil, rfl, fun _ hm => by simp at hm⟩
  | v :: vs, hp, hq => by
    obtain ⟨fs, h1, h2, h3⟩ := TupsOk.firsts (vs := vs) (fun v' hm => hp v' (List.mem_cons_of_mem _ hm)) fun v' hm => hq v' (List.mem_cons_of_mem _ hm)
    obtain ⟨a, o, its, n, e, ho, hc, hd, e1⟩ := hp v (List.mem_cons_self ..)
    obtain ⟨i, t, r, e2⟩ := hq v (List.mem_cons_self ..)
    have h0 : its[0]? = some (Value.int i t) := by
      rw [← Array.getElem?_toList, e1, e2]; rfl
    subst e
    refine ⟨.int i t :: fs, PySem.W.KatTups.cons ho hc hd h0 h1, by rw [List.length_cons, List.length_cons, h2], fun f hm => ?_⟩
    rcases List.mem_cons.mp hm with rfl | hm
    · exact ⟨i, t, rfl⟩
    · exact h3 f hm
theorem TupsOk.keeps {h h' : Heap} {vs : List Value} {it : Value → List Value} {k : Value → List Int} (T : TupsOk h vs it k) (q : ∀ b o, h.get? b = some o → o.cls = .type "tuple" → h'.get? b = some o) : TupsOk h' vs it k :=
  ⟨fun v hv => (T.tup v hv).keeps q, T.fst, T.cmp⟩
theorem TupsOk.sortable {a : Addr} {vs : List Value} {it : Value → List Value} {k : Value → List Int} (T : TupsOk s.heap vs it k) (h0 : 0 < vs.length) (ha : ∀ o, s.heap.get? a = some o → o.cls ≠ .type "tuple") : SortableO prog w A s a vs (ltK k) := by
  intro h' keep
  have T' : TupsOk h' vs it k := T.keeps fun b o e c => keep b o (fun z => by subst z; exact ha o e c) e
  obtain ⟨fs, h1, h2, h3⟩ := TupsOk.firsts T'.tup T'.fst
  refine ⟨tuples' true, fun Q E hq => ?_, TupsOk.cmpK (s := { s with heap := h' }) T'⟩
  refine PySem.W.kat_kind (T := .type "int") h1 (by omega) (fun f hm => ?_) (by rfl) ?_
  · obtain ⟨x, t, rfl⟩ := h3 f hm
    exact PySem.W.Looks.now
  · have e : (Value.type "int" != Value.type "tuple") = true := by first | decide +kernel | rfl | decide
    rw [e]
    exact hq
theorem sorted_tupsO {l : Addr} {vs : List Value} {it : Value → List Value} {k : Value → List Int} {Q : Value → Shared → Prop} (hl : s.heap.IsList l vs.toArray) (hz : vs.length ≤ sizeLine) (T : TupsOk s.heap vs it k)
    (h : ∀ (h' : Heap) (d : Addr) (out : List Value), Srtd (ltK k) out → Stb (ltK k) out vs → (∀ b o, s.heap.get? b = some o → h'.get? b = some o) → s.heap.objs.size ≤ d → (∃ n, h'.get? d = some (seqObj "list" out.toArray n)) → Q (.ref d) { s with heap := h' }) :
    wpAny (model prog w) A (call (.builtin "sorted") [.ref l]) Q E s := by
  refine sorted_ord (ltK_swo k) hl hz (fun h2 h₁ a ha kk => ?_) fun out hs hb => ?_
  · refine TupsOk.sortable (s := { s with heap := h₁ }) (it := it) (T.keeps fun b o e _ => (kk b o e).2) (by omega) fun o e => ?_
    have e' : some o = some (seqObj "list" vs.toArray 0) := e.symm.trans ha
    cases e'
    intro c
    exact absurd (Value.type.inj c) (by decide)
  · exact h _ _ out hs hb (fun b o e => sortedAll_old e) (Nat.le_succ _) (sortedAll_at s.heap vs out.toArray)
end
/-! ### as a rule of the layer -/
def cmpL : List V → List V → Bool → Prop
  | [], [], b => b = false
  | [], _ :: _, b => b = true
  | _ :: _, [], b => b = false
  | .int i :: r, .int j :: t, b => if i = j then cmpL r t b else b = decide (i < j)
  | .ref a :: r, .ref c :: t, b => a = c ∧ cmpL r t b
  | _, _, _ => False
def rSortedT (K : PySem.W.Frag) : List V → Hp → VK → Prop := fun vs H Q => ∃ (a : Addr) (xs : List V) (it : V → List V) (k : V → List Int), vs = [V.ref a] ∧ SqL K H a xs ∧ (∀ x ∈ xs, ∃ t, x = V.ref t ∧ H t = some (.tup (it x))) ∧
  (∀ x ∈ xs, ∃ i r, it x = .int i :: r) ∧ (∀ x ∈ xs, ∀ y ∈ xs, cmpL (it x) (it y) (lexL (k x) (k y))) ∧
  ∀ p, H p = none → Q (.ref p) (upd H p (.lst (srtB k xs)))
def heapT (h : Heap) : Value → List Value
  | .ref a => (match h.get? a with | some o => (match o.data with | .seq xs _ => xs.toList | _ => []) | none => [])
  | _ => []
theorem cmpL_V : ∀ {x y : List V} {us vs : List Value} {b : Bool}, Vals x us → Vals y vs → cmpL x y b → cmpV us vs b
  | [], [], _, _, b, .nil, .nil, h => h
  | [], _ :: _, _, _, b, .nil, .cons _ _, h => h
  | _ :: _, [], _, _, b, .cons _ _, .nil, h => by unfold cmpL at h; exact h
  | x :: r, y :: t, _, _, b, .cons e1 r1, .cons e2 r2, h => by
    cases x <;> cases y <;> first | exact False.elim h | skip
    case int.int i j =>
      obtain ⟨t1, rfl⟩ := e1
      obtain ⟨t2, rfl⟩ := e2
      have h : if i = j then cmpL r t b else b = decide (i < j) := h
      unfold cmpV
      by_cases e : i = j
      · rw [if_pos e] at h ⊢; exact cmpL_V r1 r2 h
      · rw [if_neg e] at h ⊢; exact h
    case ref.ref a c =>
      cases e1
      cases e2
      have h : a = c ∧ cmpL r t b := h
      exact ⟨h.1, cmpL_V r1 r2 h.2⟩
section
variable {X : Cx}
theorem cr_sortedT : CallR X (.builtin "sorted") (rSortedT X.K) := by
  intro pins s σ H vs us Q I r h
  obtain ⟨a, xs, it, k, rfl, hs, hx, hf, hc, q⟩ := h
  obtain ⟨its, rv, hl, hz⟩ := I.list hs
  obtain ⟨u, rfl, ru⟩ := vals1 r
  obtain rfl : u = Value.ref a := ru
  obtain ⟨e1, e2⟩ := refs_back rv fun x m => by
    obtain ⟨t, e, _⟩ := hx x m
    exact ⟨t, e⟩
  have hT : ∀ v ∈ its, backV v ∈ xs ∧ IsTupV s.heap v (heapT s.heap v) ∧ Vals (it (backV v)) (heapT s.heap v) := fun v hv => by
    obtain ⟨t, rfl⟩ := e2 v hv
    have hm : V.ref t ∈ xs := by rw [e1]; exact List.mem_map.mpr ⟨_, hv, rfl⟩
    obtain ⟨t', e, ht⟩ := hx _ hm
    cases e
    obtain ⟨_, its2, r2, o, ho, hcl, n, hd⟩ := I.hok _ _ ht
    have hh : heapT s.heap (.ref t) = its2 := by
      unfold heapT
      dsimp only
      rw [ho]
      dsimp only
      rw [hd]
    refine ⟨hm, ⟨t, o, its2.toArray, n, rfl, ho, hcl, hd, by rw [hh]⟩, ?_⟩
    rw [hh]; exact r2
  have T : TupsOk s.heap its (heapT s.heap) (fun u => k (backV u)) := by
    refine ⟨fun v hv => (hT v hv).2.1, fun v hv => ?_, fun v hv u hu => ?_⟩
    · obtain ⟨h1, _, h3⟩ := hT v hv
      obtain ⟨i, r, e⟩ := hf _ h1
      rw [e] at h3
      generalize heapT s.heap v = z at h3
      cases h3 with
      | cons e _ =>
        obtain ⟨t, rfl⟩ := e
        exact ⟨i, t, _, rfl⟩
    · exact cmpL_V (hT v hv).2.2 (hT u hu).2.2 (hc _ (hT v hv).1 _ (hT u hu).1)
  refine sorted_tupsO (it := heapT s.heap) (k := fun u => k (backV u)) hl.isList (by rw [← rv.length]; exact hz) T fun h' d out h1 h2 kp hd hn => ?_
  have h3 : ∀ u ∈ out, ∃ a, u = Value.ref a := fun u hu => e2 u (h2.perm.mem_iff.mp hu)
  obtain ⟨n, hn⟩ := hn
  have hb : SrtO.Stb (ltK k) (out.map backV) xs := by
    rw [e1]
    exact SrtO.Stb.map (ltK_swo k) backV h2
  have hu : out.map backV = srtB k xs := SrtO.stb_uniq (ltK_swo k) (SrtO.srtd_map h1) (srtB_srtd xs) (hb.trans ⟨(srtB_stb xs).perm.symm, fun z => ((srtB_stb xs).cls z).symm⟩)
  refine ⟨.ref d, upd H d (.lst (srtB k xs)), I.laid (t' := s.toks) kp hd ⟨?_, out, n, by rw [← hu]; exact vals_back h3, hn⟩, rfl, q d (I.hok.fresh hd)⟩
  rw [(srtB_stb xs).len]
  exact hz
end
/-! ### the word -/
def tkI : W → Option (List Int)
  | .tup (.int i :: r) => (match isInts r with | some ns => some (i :: ns) | none => none)
  | _ => none
def isSim : W → Bool
  | .int _ => true
  | .ref _ => true
  | _ => false
def tk1 : W → Option Int
  | .tup (.int i :: r) => if r.all isSim = true then some i else none
  | _ => none
def ndI : List Int → Bool
  | [] => true
  | a :: r => !r.contains a && ndI r
theorem ndI_ok : ∀ {l : List Int}, ndI l = true → l.Nodup
  | [], _ => List.nodup_nil
  | a :: r, h => by
    unfold ndI at h
    rw [Bool.and_eq_true] at h
    refine List.nodup_cons.mpr ⟨fun m => ?_, ndI_ok h.2⟩
    have := List.contains_iff_mem.mpr m
    rw [this] at h
    cases h.1
def kI (w : W) : List Int := (tkI w).getD []
def k1 (w : W) : List Int := [(tk1 w).getD 0]
def sortW (ws : List W) : Option (List W) := match isInts ws with
  | some ns => some ((srtB (fun i => [i]) ns).map W.int)
  | none => if ws.all (fun w => (tkI w).isSome) = true then some (srtB kI ws)
    else if ws.all (fun w => (tk1 w).isSome) = true ∧ ndI (ws.map fun w => (tk1 w).getD 0) = true then some (srtB k1 ws) else none
def fSort (p : Hh) (xs : List W) (s : S) : O2 := match xs with
  | [w] => (match cellL p s w with
    | some ws => (match sortW ws with | some us => some (.ref (nxt p s), al s (.lst us)) | none => none)
    | none => none)
  | _ => none
theorem srt_uniq : ∀ {l m : List Int}, l.Perm m → l.Pairwise (· ≤ ·) → m.Pairwise (· ≤ ·) → l = m
  | [], m, h, _, _ => h.symm.eq_nil.symm
  | a :: l, [], h, _, _ => absurd h.eq_nil (by simp)
  | a :: l, b :: m, h, h1, h2 => by
    have e1 : a ≤ b := by
      rcases List.mem_cons.mp (h.mem_iff.mpr (List.mem_cons_self (a := b) (l := m))) with e | e
      · omega
      · exact (List.pairwise_cons.mp h1).1 b e
    have e2 : b ≤ a := by
      rcases List.mem_cons.mp (h.mem_iff.mp (List.mem_cons_self (a := a) (l := l))) with e | e
      · omega
      · exact (List.pairwise_cons.mp h2).1 a e
    obtain rfl : a = b := by omega
    rw [srt_uniq ((List.perm_cons a).mp h) (List.pairwise_cons.mp h1).2 (List.pairwise_cons.mp h2).2]
theorem srtI_le (ns : List Int) : (srtB (fun i => [i]) ns).Pairwise (· ≤ ·) := by
  refine (srtB_srtd (k := fun i : Int => [i]) ns).imp fun {x y} h => ?_
  have h : lexL [y] [x] = false := h
  unfold lexL at h
  by_cases e : y = x
  · omega
  · rw [if_neg e] at h
    have := of_decide_eq_false h
    omega
section
variable {G : GE} {X : Cx} {ρ : List Addr} {H : Hp} {p : Hh} {s : S}
def itH (H : Hp) : V → List V
  | .ref a => (match H a with | some (.tup vs) => vs | _ => [])
  | _ => []
def vI : V → Int
  | .int i => i
  | _ => 0
theorem rl2_of {P : W → Prop} : ∀ {ws : List W} {vs : List V}, RVs G ρ H ws vs → (∀ w ∈ ws, P w) → Rl2 (fun w v => RV G ρ H w v ∧ P w) ws vs
  | _, _, .nil, _ => .nil
  | _, _, .cons h r, q => .cons ⟨h, q _ List.mem_cons_self⟩ (rl2_of r fun w m => q w (List.mem_cons_of_mem _ m))
theorem rl2_to {P : W → Prop} : ∀ {ws : List W} {vs : List V}, Rl2 (fun w v => RV G ρ H w v ∧ P w) ws vs → RVs G ρ H ws vs
  | _, _, .nil => .nil
  | _, _, .cons h r => .cons h.1 (rl2_to r)
theorem tup_it {w : W} {v : V} {us : List W} (r : RV G ρ H w v) (e : w = .tup us) : ∃ t, v = .ref t ∧ H t = some (.tup (itH H v)) ∧ RVs G ρ H us (itH H v) := by
  subst e
  cases r with
  | @tup a ws vs na h r =>
    have e : itH H (.ref a) = vs := by unfold itH; dsimp only; rw [h]
    exact ⟨a, rfl, by rw [e]; exact h, by rw [e]; exact r⟩
theorem tkI_it {w : W} {v : V} {ns : List Int} (r : RV G ρ H w v) (e : tkI w = some ns) : ∃ t, v = .ref t ∧ H t = some (.tup (itH H v)) ∧ itH H v = ns.map V.int ∧ ns ≠ [] := by
  unfold tkI at e
  split at e
  · rename_i i q
    cases z : isInts q with
    | none => rw [z] at e; cases e
    | some ms =>
      rw [z] at e
      cases e
      obtain ⟨t, h1, h2, h3⟩ := tup_it r rfl
      refine ⟨t, h1, h2, ?_, by simp⟩
      have : isInts (W.int i :: q) = some (i :: ms) := by unfold isInts; rw [z]; rfl
      exact isInts_ok this h3
  · cases e
theorem rvs_mem : ∀ {ws : List W} {vs : List V} {v : V}, RVs G ρ H ws vs → v ∈ vs → ∃ w ∈ ws, RV G ρ H w v
  | _, _, _, .nil, m => absurd m (by simp)
  | _, _, _, .cons h r, m => by
    rcases List.mem_cons.mp m with rfl | m
    · exact ⟨_, List.mem_cons_self, h⟩
    · obtain ⟨w, a, b⟩ := rvs_mem r m
      exact ⟨w, List.mem_cons_of_mem _ a, b⟩
theorem tk1_it {w : W} {v : V} {i : Int} (r : RV G ρ H w v) (e : tk1 w = some i) : ∃ t vs, v = .ref t ∧ H t = some (.tup (itH H v)) ∧ itH H v = .int i :: vs ∧ ∀ x ∈ vs, (∃ j, x = .int j) ∨ ∃ a, x = .ref a := by
  unfold tk1 at e
  split at e
  · rename_i i' q
    split at e
    · rename_i hq
      cases e
      obtain ⟨t, h1, h2, h3⟩ := tup_it r rfl
      generalize itH H v = z at h2 h3
      cases h3 with
      | cons a r3 =>
        cases a
        refine ⟨t, _, h1, h2, rfl, ?_⟩
        intro x m
        obtain ⟨w, mw, rw'⟩ := rvs_mem r3 m
        have := List.all_eq_true.mp hq w mw
        cases rw' with
        | int j => exact .inl ⟨j, rfl⟩
        | ref h => exact .inr ⟨_, rfl⟩
        | _ => cases this
    · cases e
  · cases e
theorem cmpL_ints : ∀ ns ms : List Int, cmpL (ns.map V.int) (ms.map V.int) (lexL ns ms)
  | [], [] => rfl
  | [], _ :: _ => rfl
  | _ :: _, [] => rfl
  | a :: r, b :: t => by
    show if a = b then cmpL (r.map V.int) (t.map V.int) (lexL (a :: r) (b :: t)) else lexL (a :: r) (b :: t) = decide (a < b)
    unfold lexL
    by_cases e : a = b
    · rw [if_pos e, if_pos e]; exact cmpL_ints r t
    · rw [if_neg e, if_neg e]
theorem cmpL_self : ∀ {vs : List V}, (∀ x ∈ vs, (∃ j, x = .int j) ∨ ∃ a, x = .ref a) → cmpL vs vs false
  | [], _ => rfl
  | x :: vs, h => by
    have ih := cmpL_self fun y m => h y (List.mem_cons_of_mem _ m)
    rcases h x List.mem_cons_self with ⟨j, rfl⟩ | ⟨a, rfl⟩
    · show if j = j then cmpL vs vs false else _
      rw [if_pos rfl]; exact ih
    · exact ⟨rfl, ih⟩
theorem vI_map (ns : List Int) : (ns.map V.int).map vI = ns := by
  rw [List.map_map]
  exact (List.map_congr_left fun _ _ => rfl).trans (List.map_id ns)
/-- what sorts the tuples' refs as the words are sorted -/
theorem sort_ref {K : PySem.W.Frag} {ws us : List W} {vs : List V} {a : Addr} (r : RVs G ρ H ws vs) (hs : SqL K H a vs) (hn : isInts ws = none) (h : sortW ws = some us) {Q : VK} (q : ∀ ys, RVs G ρ H us ys → ∀ p, H p = none → Q (.ref p) (upd H p (.lst ys))) : rSortedT K [.ref a] H Q := by
  unfold sortW at h
  rw [hn] at h
  dsimp only at h
  split at h
  · rename_i hB
    cases h
    have hB' := List.all_eq_true.mp hB
    have g : ∀ w ∈ ws, ∃ ns, tkI w = some ns := fun w m => Option.isSome_iff_exists.mp (hB' w m)
    have key : ∀ w v, RV G ρ H w v ∧ (∃ ns, tkI w = some ns) → kI w = (itH H v).map vI := fun w v ⟨r, ns, e⟩ => by
      obtain ⟨t, _, _, h3, _⟩ := tkI_it r e
      unfold kI
      rw [e, h3, vI_map]; rfl
    refine ⟨a, vs, itH H, fun v => (itH H v).map vI, rfl, hs, fun x m => ?_, fun x m => ?_, fun x m y m' => ?_, fun p hp => q _ (rl2_to (Rl2.srt key (rl2_of r g))) p hp⟩
    · obtain ⟨w, mw, rw'⟩ := rvs_mem r m
      obtain ⟨ns, e⟩ := g w mw
      obtain ⟨t, h1, h2, _⟩ := tkI_it rw' e
      exact ⟨t, h1, h2⟩
    · obtain ⟨w, mw, rw'⟩ := rvs_mem r m
      obtain ⟨ns, e⟩ := g w mw
      obtain ⟨t, h1, h2, h3, h4⟩ := tkI_it rw' e
      cases ns with
      | nil => exact absurd rfl h4
      | cons i ns => exact ⟨i, _, h3⟩
    · obtain ⟨w, mw, rw'⟩ := rvs_mem r m
      obtain ⟨ns, e⟩ := g w mw
      obtain ⟨t, h1, h2, h3, h4⟩ := tkI_it rw' e
      obtain ⟨w2, mw2, rw2⟩ := rvs_mem r m'
      obtain ⟨ns2, e2⟩ := g w2 mw2
      obtain ⟨t2, i1, i2, i3, i4⟩ := tkI_it rw2 e2
      show cmpL (itH H x) (itH H y) (lexL ((itH H x).map vI) ((itH H y).map vI))
      rw [h3, i3, vI_map, vI_map]
      exact cmpL_ints ns ns2
  · split at h
    · rename_i hC
      cases h
      obtain ⟨hC, hN⟩ := hC
      have hC' := List.all_eq_true.mp hC
      have g : ∀ w ∈ ws, ∃ i, tk1 w = some i := fun w m => Option.isSome_iff_exists.mp (hC' w m)
      have key : ∀ w v, RV G ρ H w v ∧ (∃ i, tk1 w = some i) → k1 w = ((itH H v).map vI).take 1 := fun w v ⟨r, i, e⟩ => by
        obtain ⟨t, vs', _, _, h3, _⟩ := tk1_it r e
        unfold k1
        rw [e, h3]; rfl
      refine ⟨a, vs, itH H, fun v => ((itH H v).map vI).take 1, rfl, hs, fun x m => ?_, fun x m => ?_, fun x m y m' => ?_, fun p hp => q _ (rl2_to (Rl2.srt key (rl2_of r g))) p hp⟩
      · obtain ⟨w, mw, rw'⟩ := rvs_mem r m
        obtain ⟨i, e⟩ := g w mw
        obtain ⟨t, vs', h1, h2, _⟩ := tk1_it rw' e
        exact ⟨t, h1, h2⟩
      · obtain ⟨w, mw, rw'⟩ := rvs_mem r m
        obtain ⟨i, e⟩ := g w mw
        obtain ⟨t, vs', h1, h2, h3, _⟩ := tk1_it rw' e
        exact ⟨i, vs', h3⟩
      · obtain ⟨ix, lx, ex⟩ := List.getElem_of_mem m
        obtain ⟨iy, ly, ey⟩ := List.getElem_of_mem m'
        obtain ⟨w, ew, rw'⟩ := r.get' (i := ix) (v := x) (by rw [List.getElem?_eq_getElem lx, ex])
        obtain ⟨w2, ew2, rw2⟩ := r.get' (i := iy) (v := y) (by rw [List.getElem?_eq_getElem ly, ey])
        obtain ⟨i, e⟩ := g w (List.mem_of_getElem? ew)
        obtain ⟨j, e2⟩ := g w2 (List.mem_of_getElem? ew2)
        obtain ⟨t, vx, h1, h2, h3, h4⟩ := tk1_it rw' e
        obtain ⟨t2, vy, i1, i2, i3, i4⟩ := tk1_it rw2 e2
        by_cases hij : i = j
        · have hixy : ix = iy := by
            have nd := ndI_ok hN
            have a1 : (ws.map fun w => (tk1 w).getD 0)[ix]? = some i := by rw [List.getElem?_map, ew]; show some ((tk1 w).getD 0) = _; rw [e]; rfl
            have a2 : (ws.map fun w => (tk1 w).getD 0)[iy]? = some i := by rw [List.getElem?_map, ew2]; show some ((tk1 w2).getD 0) = _; rw [e2, hij]; rfl
            obtain ⟨b1, c1⟩ := List.getElem?_eq_some_iff.mp a1
            obtain ⟨b2, c2⟩ := List.getElem?_eq_some_iff.mp a2
            exact (List.getElem_inj nd).mp (c1.trans c2.symm)
          subst hixy
          have hxy : x = y := by rw [← ex, ← ey]
          subst hxy
          show cmpL (itH H x) (itH H x) (lexL (((itH H x).map vI).take 1) (((itH H x).map vI).take 1))
          rw [show lexL (((itH H x).map vI).take 1) (((itH H x).map vI).take 1) = false from (ltK_swo (fun l : List Int => l)).refl _, h3]
          show if i = i then cmpL vx vx false else _
          rw [if_pos rfl]
          exact cmpL_self h4
        · show cmpL (itH H x) (itH H y) (lexL (((itH H x).map vI).take 1) (((itH H y).map vI).take 1))
          rw [h3, i3]
          show if i = j then cmpL vx vy (lexL [i] [j]) else lexL [i] [j] = decide (i < j)
          rw [if_neg hij]
          unfold lexL
          rw [if_neg hij]
    · cases h
theorem c_sorted_rule {xs : List W} {vs : List V} {Q : VK} (rp : Rep G ρ p s H) (r : RVs G ρ H xs vs) (h : PoO G p ρ H (fSort p xs s) Q) : rSortedI X.K vs H Q ∨ rSortedT X.K vs H Q := by
  match xs, vs, r, h with
  | [], _, _, h => exact h.elim
  | _ :: _ :: _, _, _, h => exact h.elim
  | [w], [v], .cons r1 .nil, h =>
    unfold fSort at h
    dsimp only at h
    cases z : cellL p s w with
    | none => rw [z] at h; exact h.elim
    | some ws =>
      rw [z] at h
      dsimp only at h
      obtain ⟨a, vs, rfl, r2, hs⟩ := cellL_at (K := X.K) rp r1 z
      cases z2 : sortW ws with
      | none => rw [z2] at h; exact h.elim
      | some us =>
        rw [z2] at h
        dsimp only at h
        cases z3 : isInts ws with
        | some ns =>
          obtain rfl := isInts_ok z3 r2
          refine .inl ⟨a, ns, rfl, hs, fun ns' p hp hw hq => ?_⟩
          unfold sortW at z2
          rw [z3] at z2
          cases z2
          have e : ns' = srtB (fun i => [i]) ns := srt_uniq (hp.trans (srtB_stb (k := fun i : Int => [i]) ns).perm.symm) hw (srtI_le ns)
          rw [e]
          refine po_lst rp ?_ h hq
          clear z3 e hp hw
          induction srtB (fun i => [i]) ns with
          | nil => exact .nil
          | cons i l ih => exact .cons (.int i) ih
        | none => exact .inr (sort_ref r2 hs z3 z2 fun ys ry p hp => po_lst rp ry h hp)
theorem c_sorted : CallI G X (.builtin "sorted") fSort := callI_of (CallR.or cr_sortedI cr_sortedT) fun p ρ s H xs vs Q rp r h => c_sorted_rule (X := X) rp r h
end
end CC
set_option Elab.async false
set_option linter.all false
set_option maxRecDepth 100000
set_option maxHeartbeats 2000000
/-! CCDispT: {t: v}, one entry, the key a tuple; sorted of such a dict -/
namespace CC
open PySem PySem.Spec PyProof.Rows L2
/-- {k: v}, k a tuple of ints and texts; the new dict stands empty while the pair is made -/
def tDisp1T (tk tv : TE) : TE := fun σ H Q => ∀ p, H p = none → tPairs [(tk, tv)] σ (upd H p (.dT [])) fun ps H2 => H2 p = some (.dT []) ∧ ∃ (b : Addr) (key : List Key) (y : V), ps = [(.ref b, y)] ∧ H2 b = some (.tup (key.map kV)) ∧ Q (.ref p) (upd H2 p (.dT [(key, y)]))
theorem pe_disp1T {X : Cx} {pos : Pos} {k v : Expr} {tk tv : TE} (hu : X.A.units < cLine) (hk : PE X k tk) (hv : PE X v tv) : PE X (.Dict [some k] [v] pos) (tDisp1T tk tv) := by
  refine ⟨fun pins s σ H Q I q => ?_⟩
  have hn := I.hok.fresh (Nat.le_refl s.heap.objs.size)
  have I1 := I.laid (a := s.heap.objs.size) (o := .dT []) (h' := s.heap.push { cls := .type "dict", data := .dict #[] }) (t' := s.toks) (fun _ _ q => Heap.get?_push_of_some _ q) (Nat.le_refl _) (dt_empty s.heap I.big)
  have hw := pairTrees_length [some k] [v] X.env pos rfl rfl
  have hlen : (pairTrees [some k] [v] X.env pos).length ≤ 15 := by rw [hw]; show 1 ≤ 15; decide
  rw [arm_eval_Dict, zip_pairTrees [some k] [v] X.env pos rfl rfl, dictDisplay_pairs _ (fun he => by rw [he] at hw; cases hw) (by omega)]
  refine wpAny_bind (wpAny_standAt (wpAny_bind (wpAny_subDictH (knd := tupleKind (mixKind X.prog X.w)) hu hlen (thn ((pps_cons hk hv pps_nil).run pins _ σ _ _ I1 (q _ hn)) fun ws s2 ⟨ps, H2, I2, rel, e, b, key, y, ep, eb, q2⟩ => ?_))))
  subst ep
  cases rel with
  | @cons pq wv _ wr r t =>
    cases t
    obtain ⟨w1, w2⟩ := wv
    obtain ⟨r1, r2⟩ := r
    obtain rfl : w1 = Value.ref b := r1
    obtain ⟨z, hd, xs0, r0, dd⟩ := dt_of I2.hok e
    cases r0
    refine ⟨[(key, b, w2)], ⟨rfl, rfl, key_of I2.hok eb, trivial⟩, dd, fun h' tk' dd' hs => wpAny_pure ⟨.ref s.heap.objs.size, _, ?_, rfl, q2⟩⟩
    obtain ⟨q, es, ep, hq, h2, h3, h4, _, h5⟩ := dd'
    refine d_write I2 (by rw [e]; exact True.intro) hs ⟨q, hq⟩ ⟨by rw [sizeLine_eq, List.length_singleton]; omega, hd, [(key, b, w2)], .cons ⟨rfl, ?_, r2⟩ .nil, q, es, ep, hq, h2, h3, h4, h5⟩
    rw [upd_ne (ne_of eb e (fun z => nomatch z))]
    exact eb
def fillDT (p : Hh) (n : Nat) (kw w : W) (s : S) : R W := match keysW kw, rd p s n with
  | some k, some (.dtt []) => .ok (.ref n) (wr p s n (.dtt [(k, w)]))
  | _, _ => .bad
def eDis1T (p : Hh) (mk mv : Lo → S → R W) : Lo → S → R W := fun l s => (mk l (al s (.dtt []))).bind fun kw s1 => (mv l s1).bind fun w s2 => fillDT p (nxt p s) kw w s2
section
variable {G : GE} {X : Cx} {p : Hh} {E : WX} {a b : Expr} {mk mv : Lo → S → R W} {pos : Pos}
theorem se_dis1T (hu : X.A.units < cLine) (ha : SE G p E X a mk) (hb : SE G p E X b mv) : SE G p E X (.Dict [some a] [b] pos) (eDis1T p mk mv) :=
  PE_imp (pe_disp1T hu ha hb) fun σ H Q ⟨ρ, l, s, rl, rp, h⟩ => by
    intro q hq
    have x : Ex ρ H (ρ ++ [q]) (upd H q (.dT [])) := Ex.al rp hq
    obtain ⟨_, r2, r3⟩ := rp.al_ (o := .dtt []) (u := .dT []) hq (.dT rfl .nil)
    have eq0 : (ρ ++ [q])[nxt p s]? = some q := by rw [← rp.len]; simp
    unfold eDis1T at h
    refine ⟨ρ ++ [q], l, al s (.dtt []), rl.mono x, r2, PoA.bind (PoA.base h x) fun kw s1 ρ1 H1 kv x1 rp1 rv1 h1 => ⟨ρ1, l, s1, (rl.mono x).mono x1, rp1, PoA.bind h1 fun w s2 ρ2 H2 v x2 rp2 rv2 h2 => ?_⟩⟩
    have pre : ∀ {ρa ρb : List Addr} {Ha Hb : Hp} {i : Nat} {c : Addr}, Ex ρa Ha ρb Hb → ρa[i]? = some c → ρb[i]? = some c := fun xx e => by
      obtain ⟨r, rfl⟩ := xx.pre
      rw [List.getElem?_append_left (List.getElem?_eq_some_iff.mp e).1]; exact e
    have eq2 : ρ2[nxt p s]? = some q := pre x2 (pre x1 eq0)
    unfold fillDT at h2
    cases z : keysW kw with
    | none => rw [z] at h2; exact h2.elim
    | some k =>
      cases z2 : rd p s2 (nxt p s) with
      | none => rw [z, z2] at h2; exact h2.elim
      | some o =>
        rw [z, z2] at h2
        obtain ⟨u, hu, ro⟩ := rp2.at z2 eq2
        cases ro with
        | @dT kvs ks rr rr2 =>
          cases kvs with
          | cons c cs => exact h2.elim
          | nil =>
            have : ks = [] := by
              have := congrArg List.length rr
              simp at this
              exact List.length_eq_zero_iff.mp this.symm
            subst this
            obtain ⟨kb, rfl, ek⟩ := keys_ok (rv1.mono x2) z
            have hw := rp2.wr_ (o := .dtt [(k, w)]) (u := .dT [(k, v)]) eq2 (.dT rfl (.cons (rv2.mono ?x) .nil))
            case x => exact ⟨⟨[], by simp⟩, fun _ h n => absurd h n, fun b o n h => by
              have nb : b ≠ q := fun z => n (by rw [z]; exact List.mem_of_getElem? eq2)
              rw [upd_ne nb]; exact h⟩
            exact ⟨hu, kb, k, v, rfl, ek, h2 _ _ _ hw.1 hw.2 (.ref eq2)⟩
        | _ => exact h2.elim
end
/-! ### sorted of a dict whose keys are tuples of ints -/
def rSortedDT : List V → Hp → VK → Prop := fun vs H Q => ∃ (a : Addr) (kvs : List (List Key × V)) (ns : List (List Int)), vs = [V.ref a] ∧ Rd H a (.dT kvs) ∧ kvs.map (·.1) = ns.map (List.map Sum.inl) ∧ (∀ n ∈ ns, n ≠ []) ∧
  ∀ p ys, H p = none → Rl2 (fun (l : List Int) (y : V) => ∃ b, y = .ref b ∧ H b = some (.tup (l.map V.int))) (srtB (fun l => l) ns) ys → Q (.ref p) (upd H p (.lst ys))
def kvI (h : Heap) (v : Value) : List Int := (heapT h v).map SrtO.iv
theorem iv_of : ∀ {ns : List Int} {us : List Value}, Vals (ns.map V.int) us → us.map SrtO.iv = ns
  | [], _, .nil => rfl
  | n :: ns, _, .cons e r => by
    obtain ⟨t, rfl⟩ := e
    rw [List.map_cons, iv_of r]; rfl
theorem heapT_of {P : Program} {w : World} {H : Hp} {h : Heap} {b : Addr} {xs : List V} (ok : HOk P w H h) (e : H b = some (.tup xs)) : IsTupV h (.ref b) (heapT h (.ref b)) ∧ Vals xs (heapT h (.ref b)) := by
  obtain ⟨_, its2, r2, o, ho, hcl, n, hd⟩ := (show ObjOk P w H h b (.tup xs) from ok b _ e)
  have hh : heapT h (.ref b) = its2 := by
    unfold heapT
    dsimp only
    rw [ho]
    dsimp only
    rw [hd]
  exact ⟨⟨b, o, its2.toArray, n, rfl, ho, hcl, hd, by rw [hh]⟩, by rw [hh]; exact r2⟩
/-- the keys of a dict, each with its address -/
theorem keys_rl {H : Hp} : ∀ {kvs : List (List Key × V)} {ks : List (List Key × Addr × Value)} {ns : List (List Int)}, Paired (fun (p : List Key × V) (q : List Key × Addr × Value) => p.1 = q.1 ∧ H q.2.1 = some (.tup (p.1.map kV)) ∧ RelV p.2 q.2.2) kvs ks → kvs.map (·.1) = ns.map (List.map Sum.inl) →
    Rl2 (fun (l : List Int) (v : Value) => ∃ b, v = .ref b ∧ H b = some (.tup (l.map V.int))) ns (ks.map fun x => Value.ref x.2.1)
  | [], _, [], .nil, _ => .nil
  | [], _, _ :: _, _, e => by cases e
  | _ :: _, _, [], _, e => by cases e
  | p :: kvs, _, n :: ns, .cons h r, e => by
    rw [List.map_cons, List.map_cons, List.cons.injEq] at e
    refine .cons ⟨_, rfl, ?_⟩ (keys_rl r e.2)
    rw [h.2.1, e.1, List.map_map]
    rfl
theorem Rl2.mem {α β : Type} {R : α → β → Prop} {b : β} : ∀ {l : List α} {m : List β}, Rl2 R l m → b ∈ m → ∃ a ∈ l, R a b
  | _, _, .nil, h => absurd h (by simp)
  | _, _, .cons q r, h => by
    rcases List.mem_cons.mp h with rfl | h
    · exact ⟨_, List.mem_cons_self, q⟩
    · obtain ⟨a, m, z⟩ := Rl2.mem r h
      exact ⟨a, List.mem_cons_of_mem _ m, z⟩
theorem Rl2.imp {α β : Type} {R S : α → β → Prop} (h : ∀ a b, R a b → S a b) : ∀ {l : List α} {m : List β}, Rl2 R l m → Rl2 S l m
  | _, _, .nil => .nil
  | _, _, .cons q r => .cons (h _ _ q) (Rl2.imp h r)
theorem Rl2.mapR {α β γ : Type} {R : α → β → Prop} {f : β → γ} {S : α → γ → Prop} (h : ∀ a b, R a b → S a (f b)) : ∀ {l : List α} {m : List β}, Rl2 R l m → Rl2 S l (m.map f)
  | _, _, .nil => .nil
  | _, _, .cons q r => .cons (h _ _ q) (Rl2.mapR h r)
theorem Rl2.len {α β : Type} {R : α → β → Prop} : ∀ {l : List α} {m : List β}, Rl2 R l m → l.length = m.length
  | _, _, .nil => rfl
  | _, _, .cons _ r => by simp [Rl2.len r]
section
open Srt SrtO
variable {prog : Program} {w : World} {A : Around} {E : Value → Shared → Prop} {s : Shared}
theorem sorted_src {T : String} {r d : Addr} {n : Nat} {P : Nat → Value → Prop} {OK : Heap → Prop} {k : Value → List Int} {Q : Value → Shared → Prop} (K : PySem.W.KdlSrc prog w T r d n P OK) (hh : A.handled = none) (hok : OK s.heap) (hn : n ≤ sizeLine)
    (hT : ∀ (h' : Heap) (vs : List Value), (∀ b o, s.heap.get? b = some o → h'.get? b = some o) → vs.length = n → (∀ (j : Nat) (v : Value), vs[j]? = some v → P j v) → ∃ it, TupsOk h' vs it k)
    (h : ∀ (h' : Heap) (tk : Nat) (a : Addr) (vs out : List Value), vs.length = n → (∀ (j : Nat) (v : Value), vs[j]? = some v → P j v) → Srtd (ltK k) out → Stb (ltK k) out vs → (∀ b o, s.heap.get? b = some o → h'.get? b = some o) → s.heap.get? a = none → (∃ n, h'.get? a = some (seqObj "list" out.toArray n)) → Q (.ref a) { s with heap := h', toks := tk }) :
    wpAny (model prog w) A (call (.builtin "sorted") [.ref r]) Q E s := by
  refine Calls.call_function_entry kind_sorted plain_sorted entry_sorted (args_sorted1 _) ?_
  unfold Builtin.«sorted»
  refine wpAny_bind (m := checkCount "sorted" 1 1 _) (wpAny_pure ?_)
  refine wpAny_bind (PySem.W.kdu_collect (A := A.in1) K hh hok hn fun h1 tk acc hk hacc => ?_)
  have hl : acc.toList.length = n := by rw [Array.length_toList]; exact hacc.1
  refine wpAny_bind (wpAny_newList ?_ (by rw [hl]; exact hn))
  have hP : ∀ (j : Nat) (v : Value), acc.toList[j]? = some v → P j v := fun j v e => hacc.2 j v (by rw [← Array.getElem?_toList]; exact e)
  have hoL : (h1.push (seqObj "list" acc.toList.toArray 0)).get? h1.objs.size = some (seqObj "list" acc.toList.toArray 0) := Heap.get?_push_size _ rfl
  have keep : ∀ b o, s.heap.get? b = some o → (h1.push (seqObj "list" acc.toList.toArray 0)).get? b = some o := fun b o q => Heap.get?_push_of_some _ (hk b o q)
  have hlt : s.heap.get? h1.objs.size = none := by
    cases z : s.heap.get? h1.objs.size with
    | none => rfl
    | some o => exact absurd (Heap.lt_size (hk _ _ z)) (Nat.lt_irrefl _)
  show wpAny _ _ _ _ _ { s with heap := h1.push (seqObj "list" acc.toList.toArray 0), toks := tk }
  obtain ⟨it, T'⟩ := hT _ _ keep hl hP
  refine wpAny_bind (wpAny_holding (wpAny_call_entry slot_list_sort ⟨_, hoL, rfl⟩ entry_list_sort (list_sort_ord (ltK_swo k) hoL (by rw [hl]; exact hn) (fun h2 => TupsOk.sortable (it := it) T' (by omega) fun o e => ?_) fun out hs hb => ⟨_, rfl, ?_⟩) (args_list_sort _)))
  · have e' : some o = some (seqObj "list" acc.toList.toArray 0) := e.symm.trans hoL
    cases e'
    intro c
    exact absurd (Value.type.inj c) (by decide)
  · obtain ⟨ep, he'⟩ := sortedHeap_at (vs := acc.toList) (out := out.toArray) hoL
    refine wpAny_pure ⟨_, rfl, h _ tk _ acc.toList out hl hP hs hb (fun b o q => ?_) hlt ⟨ep, he'⟩⟩
    have hb : b ≠ h1.objs.size := Nat.ne_of_lt (Heap.lt_size (hk b o q))
    rw [sortedHeap_old hb (Heap.lt_size (keep b o q))]
    exact keep b o q
end
section
variable {X : Cx}
theorem cr_sortedDT (hc : X.calm = true) : CallR X (.builtin "sorted") rSortedDT := by
  intro pins s σ H xs us Q I r h
  obtain ⟨d, kvs, ns, rfl, hd, hk, hne, q⟩ := h
  obtain ⟨u, rfl, rx⟩ := r.one
  cases rx
  obtain ⟨z, hs, ks, pr, o, es, ep, ho, hx, hdt, he, hn⟩ := (show ObjOk X.prog X.w H s.heap d (.dT kvs) from hd.ok I.hok)
  have l1 : es.size = ks.length := size_of_entries he
  have l2 : kvs.length = ks.length := Paired.length pr
  have rl := keys_rl pr hk
  -- what is collected are the keys
  have col : ∀ vs : List Value, vs.length = es.size → (∀ (j : Nat) (v : Value), vs[j]? = some v → ∃ en : DictEntry, es[j]? = some en ∧ v = en.key) → vs = ks.map fun x => Value.ref x.2.1 := fun vs hl it => by
    apply List.ext_getElem?
    intro j
    rw [List.getElem?_map]
    cases hj : vs[j]? with
    | none =>
      have h1 := List.getElem?_eq_none_iff.mp hj
      rw [List.getElem?_eq_none (show ks.length ≤ j by omega)]
      rfl
    | some v =>
      obtain ⟨en, hen, hv⟩ := it j v hj
      have qe := entry_at he j
      rw [hen] at qe
      cases hb : ks[j]? with
      | none =>
        rw [hb] at qe
        exact nomatch (show some en = none from qe)
      | some b =>
        rw [hb] at qe
        rw [hv, show en = entryOfKey (tupleKind (mixKind X.prog X.w)) b from Option.some.inj qe]
        rfl
  have facts : ∀ v ∈ ks.map (fun x => Value.ref x.2.1), ∃ l : List Int, l ∈ ns ∧ IsTupV s.heap v (heapT s.heap v) ∧ Vals (l.map V.int) (heapT s.heap v) ∧ kvI s.heap v = l := fun v hv => by
    obtain ⟨l, hl, b, rfl, hb⟩ := rl.mem hv
    obtain ⟨h1, h2⟩ := heapT_of I.hok hb
    exact ⟨l, hl, h1, h2, iv_of h2⟩
  refine sorted_src (k := kvI s.heap) (kdl_raw hs hx hdt) (I.ok.hd hc) ho (by omega) (fun h' vs kp hl it => ?_) fun h' tk a vs out hl it h1 h2 kp ha hob => ?_
  · obtain rfl := col vs hl it
    refine ⟨heapT s.heap, fun v hv => ?_, fun v hv => ?_, fun v hv u hu => ?_⟩
    · obtain ⟨l, _, h1, _⟩ := facts v hv
      exact h1.keeps fun b o e _ => kp b o e
    · obtain ⟨l, hl, _, h2, _⟩ := facts v hv
      have := hne l hl
      generalize heapT s.heap v = w at h2
      cases l with
      | nil => exact absurd rfl this
      | cons i l =>
        cases h2 with
        | cons e _ =>
          obtain ⟨t, rfl⟩ := e
          exact ⟨i, t, _, rfl⟩
    · obtain ⟨l, _, _, h2, h3⟩ := facts v hv
      obtain ⟨m, _, _, i2, i3⟩ := facts u hu
      show cmpV _ _ (lexL (kvI s.heap v) (kvI s.heap u))
      rw [h3, i3]
      exact cmpL_V h2 i2 (cmpL_ints l m)
  · obtain rfl := col vs hl it
    have e : out = srtB (kvI s.heap) (ks.map fun x => Value.ref x.2.1) := SrtO.stb_uniq (ltK_swo _) h1 (srtB_srtd _) (h2.trans ⟨(srtB_stb _).perm.symm, fun z => ((srtB_stb _).cls z).symm⟩)
    have rl2 : Rl2 (fun (l : List Int) (v : Value) => ∃ b, v = .ref b ∧ H b = some (.tup (l.map V.int))) (srtB (fun l => l) ns) out := by
      rw [e]
      refine Rl2.srt (fun l v ⟨b, hv, hb⟩ => ?_) rl
      subst hv
      exact (iv_of (heapT_of I.hok hb).2).symm
    have h3 : ∀ u ∈ out, ∃ a, u = Value.ref a := fun u hu => by
      obtain ⟨l, _, b, e, _⟩ := rl2.mem hu
      exact ⟨b, e⟩
    have na := HOk.gone I.hok ha
    obtain ⟨n, hob⟩ := hob
    refine ⟨.ref a, _, I.laidN (t' := tk) (o := .lst (out.map backV)) kp ha na ⟨?_, out, n, vals_back h3, hob⟩, rfl, q a _ na (rl2.mapR fun l v ⟨b, hv, hb⟩ => ⟨b, by rw [hv]; rfl, hb⟩)⟩
    rw [List.length_map, h2.len, List.length_map]
    omega
end
/-! ### the word -/
def intsK : List Key → Option (List Int)
  | [] => some []
  | .inl i :: r => (match intsK r with | some ns => some (i :: ns) | none => none)
  | _ => none
def keysI {α : Type} : List (List Key × α) → Option (List (List Int))
  | [] => some []
  | (k, _) :: r => (match intsK k, keysI r with | some (i :: l), some ns => some ((i :: l) :: ns) | _, _ => none)
def fSortA (p : Hh) (xs : List W) (s : S) : O2 := match xs with
  | [.ref n] => (match rd p s n with
    | some (.dtt kvs) => (match keysI kvs with | some ns => some (.ref (nxt p s), al s (.lst ((srtB (fun l => l) ns).map fun l => .tup (l.map W.int)))) | none => none)
    | _ => fSort p xs s)
  | _ => none
theorem intsK_ok : ∀ {k : List Key} {l : List Int}, intsK k = some l → k = l.map Sum.inl
  | [], l, h => by cases h; rfl
  | .inl i :: r, l, h => by
    unfold intsK at h
    cases z : intsK r with
    | none => rw [z] at h; cases h
    | some ns => rw [z] at h; cases h; rw [intsK_ok z]; rfl
  | .inr _ :: _, l, h => by cases h
theorem keysI_ok {α : Type} : ∀ {kvs : List (List Key × α)} {ns : List (List Int)}, keysI kvs = some ns → kvs.map (·.1) = ns.map (List.map Sum.inl) ∧ ∀ n ∈ ns, n ≠ []
  | [], ns, h => by cases h; exact ⟨rfl, fun n m => absurd m (by simp)⟩
  | (k, x) :: r, ns, h => by
    unfold keysI at h
    cases z : intsK k with
    | none => rw [z] at h; cases h
    | some l =>
      cases z2 : keysI r with
      | none =>
        rw [z, z2] at h
        cases l <;> cases h
      | some ms =>
        rw [z, z2] at h
        cases l with
        | nil => cases h
        | cons i l =>
          cases h
          obtain ⟨h1, h2⟩ := keysI_ok z2
          refine ⟨by rw [List.map_cons, List.map_cons, h1, intsK_ok z], fun n m => ?_⟩
          rcases List.mem_cons.mp m with rfl | m
          · simp
          · exact h2 n m
section
variable {G : GE} {X : Cx} {ρ : List Addr} {H : Hp} {p : Hh} {s : S}
theorem tup_out {b : Addr} {vs : List V} (rp : Rep G ρ p s H) (h : H b = some (.tup vs)) : b ∉ ρ := fun m => by
  obtain ⟨n, h1, e⟩ := List.getElem_of_mem m
  have e' : ρ[n]? = some b := by rw [List.getElem?_eq_getElem h1, e]
  cases z : rd p s n with
  | none => exact rd_full n (by rw [← rp.len]; exact h1) z
  | some o =>
    obtain ⟨a, u, e2, e3, ro⟩ := rp.has n o z
    rw [e'] at e2; cases e2
    rw [h] at e3; cases e3
    cases ro
theorem rvs_tups : ∀ {ns : List (List Int)} {ys : List V}, (∀ {b : Addr} {vs : List V}, H b = some (.tup vs) → b ∉ ρ) → Rl2 (fun (l : List Int) (y : V) => ∃ b, y = .ref b ∧ H b = some (.tup (l.map V.int))) ns ys → RVs G ρ H (ns.map fun l => .tup (l.map W.int)) ys
  | _, _, _, .nil => .nil
  | _, _, na, .cons ⟨b, e, hb⟩ r => by
    subst e
    refine .cons (.tup (na hb) hb ?_) (rvs_tups na r)
    clear hb
    rename_i l _ _
    induction l with
    | nil => exact .nil
    | cons i l ih => exact .cons (.int i) ih
theorem c_sortedA (hc : X.calm = true) : CallI G X (.builtin "sorted") fSortA := by
  refine callI_of (CallR.or (cr_sortedDT hc) (CallR.or cr_sortedI cr_sortedT)) fun p ρ s H xs vs Q rp r h => ?_
  unfold fSortA at h
  match xs, vs, r, h with
  | [], _, _, h => exact h.elim
  | _ :: _ :: _, _, _, h => exact (by split at h <;> first | exact h.elim | simp_all)
  | [w], [v], .cons r1 .nil, h =>
    split at h
    · rename_i n e
      cases e
      split at h
      · rename_i kvs e2
        cases z : keysI kvs with
        | none => rw [z] at h; exact h.elim
        | some ns =>
          rw [z] at h
          cases r1 with
          | @ref n a en =>
            obtain ⟨u, hu, ro⟩ := rp.at e2 en
            cases ro with
            | @dT kvs ks k1 k2 =>
              obtain ⟨h1, h2⟩ := keysI_ok z
              refine .inl ⟨a, ks, ns, rfl, .inl hu, by rw [← k1]; exact h1, h2, fun q ys hq rl => po_lst rp (rvs_tups (fun hb => tup_out rp hb) rl) h hq⟩
      · -- as fSort says
        rename_i e2
        refine .inr ?_
        have := c_sorted_rule (X := X) rp (.cons r1 .nil) h
        exact this
    · exact h.elim
end
end CC
set_option Elab.async false
set_option linter.all false
set_option maxRecDepth 100000
set_option maxHeartbeats 2000000
/-! CCEqA: == and != by an own __eq__, whatever stands at the right -/
namespace CC
open PySem PySem.Spec PyProof.Rows L2
/-- what may stand at the right: one of the class, or None, a bool, an int, a text, a tuple, a list -/
def okR (p : Hh) (s : S) : W → Bool
  | .ref n => (cellItems p s n).isSome
  | _ => true
def gEqA (c : Nat) (Fm : Hh → List W → R W) (p : Hh) (x y : W) (s : S) : O2 := match isC p s c x with
  | false => gEq p x y s
  | true => (match isC p s c y || okR p s y with
    | false => none
    | true => (match callF Fm p [x, y] s with
      | .ok (.bl b) s' => some (.bl b, s')
      | _ => none))
def gNeA (c : Nat) (Fm : Hh → List W → R W) (p : Hh) (x y : W) (s : S) : O2 := match isC p s c x with
  | false => gNe p x y s
  | true => (match isC p s c y || okR p s y with
    | false => none
    | true => (match callF Fm p [x, y] s with
      | .ok (.bl b) s' => some (.bl (!b), s')
      | _ => none))
section
variable {prog : Program} {w : World} {A : Around} {E : Value → Shared → Prop} {s : Shared} {K : PySem.W.Frag} {x C L f : Addr} {y : Value} {h₀ : Heap} {m : PySem.Str → Option Value} {ox : Obj} {od : Option Obj} {tb : Value}
theorem ne_inA {Q : Fin → Shared → Prop} (hu : A.units < cLine) (X : K.In s.heap) (I : PySem.W.InstAt s.heap x ox C od) (hs : PySem.W.findIn K (.ref C) "__eq__" = some (some (.ref f))) (hf : PySem.W.isFn K (.ref f) = true)
    (hcall : wpAny (model prog w) A (call (.ref f) [.ref x, y]) (fun v s' => ∃ b, v = .bool b ∧ Q (.done (.ret (.bool (!b)))) s') E s) :
    wpAny (model prog w) A (Builtin.«object.__ne__» ⟨[.ref x, y], []⟩) Q E s := by
  have key : wpAny (model prog w) A (callSpecialIfBound? (.ref x) (Str.ofString "__eq__") [y]) (fun r s' => ∃ b, r = some (.bool b) ∧ Q (.done (.ret (.bool (!b)))) s') E s :=
    PySem.W.ifBound_K X I hs hf (wpAny_mono hcall (fun r s' ⟨b, e, hq⟩ => ⟨b, congrArg some e, hq⟩) fun _ _ e => e)
  obtain ⟨h, g, d, t, os⟩ := s
  delta Builtin.«object.__ne__»
  repeat (first | (with_reducible refine wpAny_cRoomFor hu ?_) | (refine wpAny_bind (wpAny_mono key (fun r s' hr => ?_) fun _ _ e => e); obtain ⟨b, rfl, hq⟩ := hr) | wp_step)
  all_goals repeat (first | assumption | exact wpAny_pure hq | (refine wpAny_bind (m := truthy (.bool _)) ?_; exact wpAny_truthy_bool (wpAny_pure hq)) | wp_step)
theorem cmp_neA {Q : Value → Shared → Prop} (hu : A.units + 1 < cLine) (F : Fr h₀ L s.heap m) (X₀ : K.In h₀) (I : PySem.W.InstAt s.heap x ox C od) (hy : PySem.W.Looks (model prog w) s.heap (typeOf y) tb) (hnf : PySem.W.notFirst K C tb = true)
    (hn : PySem.W.findIn K (.ref C) "__ne__" = some (some (.builtin "object.__ne__"))) (hs : PySem.W.findIn K (.ref C) "__eq__" = some (some (.ref f))) (hf : PySem.W.isFn K (.ref f) = true) (ho : PySem.W.mroIn K C (.type "object") = some true)
    (h : wpAny (model prog w) A.in1 (call (.ref f) [.ref x, y]) (fun v s' => ∃ b, v = .bool b ∧ Q (.bool (!b)) s') E s) : wpAny (model prog w) A (richCompare .NotEq (.ref x) y) Q E s := by
  have X := X₀.keeps F.keep
  have tv : PySem.W.Looks (model prog w) s.heap (typeOf (.ref x)) (.ref C) := I.type
  have sp : PySem.W.Looks (model prog w) s.heap (specialOf (.ref x) "__ne__") (some (.builtin "object.__ne__")) := tv.andThen (PySem.W.looks_findIn X hn)
  have iv : PySem.W.Looks (model prog w) s.heap (isInstance (.ref x) (.type "object")) true := tv.andThen (PySem.W.looks_mroIn X ho)
  have one : wpAny (model prog w) A (tryCompare (.ref x) "__ne__" y) (fun r s' => ∃ v, r = some v ∧ Q v s') E s := by
    unfold tryCompare
    refine wpAny_bind (NtL.csib sp (PySem.F.cmp_object.ne.bind _) ?_)
    refine wpAny_call (codeAny_call_builtin PySem.F.cmp_object.ne.plain PySem.F.cmpEntry_ne (@PySem.W.check_slot (model prog w) _ _ _ "object.__ne__" "object" "__ne__" (.ref x) [y] [] _ PySem.F.cmpKind_ne PySem.F.cmpSplit_ne iv (PySem.F.cmpArgs_ne _ _) ?_))
    refine ne_inA hu X I hs hf (wpAny_mono h (fun v s' hv => ?_) fun _ _ e => e)
    obtain ⟨b, rfl, hq⟩ := hv
    first | exact ⟨b, rfl, wpAny_pure ⟨_, rfl, hq⟩⟩ | exact ⟨b, rfl, wpAny_pure (wpAny_pure ⟨_, rfl, hq⟩)⟩ | exact ⟨b, rfl, ⟨_, rfl, hq⟩⟩
  unfold richCompare
  simp only [oneThing_ref]
  refine wpAny_holding (wpAny_bind (wpAny_cRoomFor (Nat.lt_of_succ_lt hu) ?_))
  refine wpAny_bind (I.type.here (wpAny_bind (hy.here ?_)))
  split
  · rename_i q
    have sub : PySem.W.subIn K tb (.ref C) = some false := by
      rcases Bool.or_eq_true_iff.mp hnf with e1 | e1
      · rw [beq_iff_eq.mp e1] at q
        exact absurd q (by simp)
      · exact beq_iff_eq.mp e1
    refine wpAny_bind ((PySem.W.looks_subIn X sub).here ?_)
    simp only [if_false, Bool.false_eq_true]
    refine wpAny_bind (wpAny_mono one ?_ fun _ _ e => e)
    rintro r s' ⟨v, rfl, hq⟩
    exact wpAny_pure hq
  · refine wpAny_bind (wpAny_pure ?_)
    simp only [if_false, Bool.false_eq_true]
    refine wpAny_bind (wpAny_mono one ?_ fun _ _ e => e)
    rintro r s' ⟨v, rfl, hq⟩
    exact wpAny_pure hq
end
section
variable {G : GE} {X : Cx} {k c : Nat} {f : Addr} {Fm : Hh → List W → R W} {E : WX} {ρ : List Addr} {H : Hp} {p : Hh} {s0 : S} {pins : List (Addr × Obj)} {s : Shared} {σ : L2.St}
theorem looks_tyB {M : Model} {x : V} {u : Value} {T : String} (I : Inv X pins σ H s) (rx : RelV x u) (t : TyB X.K H x T) : PySem.W.Looks M s.heap (typeOf u) (.type T) := by
  have h := t.is I rx
  cases t with
  | non => cases (show u = Value.none from rx); exact .now
  | bl b => cases (show u = Value.bool b from rx); exact .now
  | int i => obtain ⟨t, rfl⟩ := (show ∃ t, u = Value.int i t from rx); exact .now
  | str x => obtain ⟨t, rfl⟩ := (show ∃ t, u = Value.str x t from rx); exact .now
  | byt b => obtain ⟨t, rfl⟩ := (show ∃ t, u = Value.bytes b t from rx); exact .now
  | lst _ =>
    cases (show u = Value.ref _ from rx)
    obtain ⟨o, h1, h2⟩ := h
    exact h2 ▸ (PySem.W.Looks.ld h1).andThen .now
  | tup _ =>
    cases (show u = Value.ref _ from rx)
    obtain ⟨o, h1, h2⟩ := h
    exact h2 ▸ (PySem.W.Looks.ld h1).andThen .now
  | dK _ =>
    cases (show u = Value.ref _ from rx)
    obtain ⟨o, h1, h2⟩ := h
    exact h2 ▸ (PySem.W.Looks.ld h1).andThen .now
theorem tyB_notFirst {K : PySem.W.Frag} {C : Addr} {x : V} {T : String} (t : TyB K H x T) : PySem.W.notFirst K C (.type T) = true := by
  cases t <;> kernel_rfl
theorem tyB_of {K : PySem.W.Frag} {w : W} {v : V} (rp : Rep G ρ p s0 H) (r : RV G ρ H w v) (h : okR p s0 w = true) : ∃ T, TyB K H v T := by
  cases r with
  | non => exact ⟨_, .non⟩
  | bl b => exact ⟨_, .bl b⟩
  | int i => exact ⟨_, .int i⟩
  | str z => exact ⟨_, .str z⟩
  | tup na ha r => exact ⟨_, .tup (SqT.of ha)⟩
  | @ref n a e =>
    unfold okR at h
    dsimp only at h
    cases z : cellItems p s0 n with
    | none => rw [z] at h; cases h
    | some ws =>
      obtain ⟨vs, h1, _⟩ := cell_seq (K := K) rp z e
      exact ⟨_, .lst h1⟩
theorem right_ok {u : V} {u' : Value} {y : W} (I : Inv X pins σ H s) (rp : Rep G ρ p s0 H) (r2 : RV G ρ H y u) (ru : RelV u u') (h : (isC p s0 c y || okR p s0 y) = true) : ∃ tb, PySem.W.Looks (model X.prog X.w) s.heap (typeOf u') tb ∧ PySem.W.notFirst X.K (G.cls c) tb = true := by
  rcases Bool.or_eq_true_iff.mp h with e2 | e2
  · obtain ⟨b, dy, gs', rfl, hb, _⟩ := obj_at rp r2 e2
    cases ru
    obtain ⟨mB, J', _⟩ := ins_get I.hok hb
    obtain ⟨od', J', _⟩ := J'.look
    exact ⟨_, J'.type, by simp [PySem.W.notFirst]⟩
  · obtain ⟨T, t⟩ := tyB_of (K := X.K) rp r2 e2
    exact ⟨_, looks_tyB I ru t, tyB_notFirst t⟩
end
section
variable {G : GE} {X : Cx} {k c : Nat} {f : Addr} {Fm : Hh → List W → R W} {E : WX}
theorem i_eqA (FF : FC G X.prog X.w X.K X.mg X.base k f Fm []) (cn : Cn X E k) (hs : PySem.W.findIn X.K (.ref (G.cls c)) "__eq__" = some (some (.ref f))) (hf : PySem.W.isFn X.K (.ref f) = true) : OpI G X (compareOp .Eq) (gEqA c Fm) := by
  intro p pins s σ H v u v' u' Q I rv ru ⟨ρ, s0, x, y, rp, r1, r2, q⟩
  unfold gEqA at q
  cases e1 : isC p s0 c x with
  | false => rw [e1] at q; exact i_eq cn.u64 p pins s σ H v u v' u' Q I rv ru ⟨ρ, s0, x, y, rp, r1, r2, q⟩
  | true =>
    rw [e1] at q
    cases e2 : (isC p s0 c y || okR p s0 y) with
    | false => rw [e2] at q; exact q.elim
    | true =>
      rw [e2] at q
      dsimp only at q
      obtain ⟨tb, hb, hnf⟩ := right_ok (c := c) I rp r2 ru e2
      obtain ⟨a, dx, gs, rfl, ha, _⟩ := obj_at rp r1 e1
      cases rv
      obtain ⟨mA, J, _⟩ := ins_get I.hok ha
      obtain ⟨od, J, _⟩ := J.look
      obtain ⟨m, hF⟩ := I.fr
      show wpAny (model X.prog X.w) X.A (richCompare .Eq (.ref a) u') (EP X pins σ Q) X.xe s
      refine PySem.W.cmp_K (op := .Eq) cn.u0 hF I.ok.mod.kin J hb hnf hs hf ?_
      obtain ⟨fd, ps, dvs, ds, F, bnd, hd, rdf⟩ := FF.ex
      have rdn := rdf ρ H
      cases rdn
      cases hd
      have go := run_fnG (Q := fun v H' => ∃ b, v = .bl b ∧ Q v H') (us := [.ref a, u']) (vs := [.ref a, u]) (dvs := []) (ds := []) (E := fun _ => fun _ _ _ => False) F cn.room cn.gd bnd .nil (fun pins H s e s' I z => ?_) I (.cons rfl (.cons ru .nil)) (sp_of (.cons r1 (.cons r2 .nil)) rp ?_)
      · refine wpAny_mono go (fun v s' z => ?_) fun _ _ z => z
        obtain ⟨_, H', I', rv, b, rfl, hq⟩ := z
        obtain rfl : v = Value.bool b := rv
        exact ⟨.bl b, H', I', rfl, hq⟩
      · obtain ⟨_, _, _, _, _, _, _, _, _, _, _, _, z⟩ := z
        exact z.elim
      · cases e3 : callF Fm p [x, y] s0 with
        | ok w s' =>
          rw [e3] at q
          cases w with
          | bl b =>
            intro ρ' H' v' y' rp' rv'
            cases rv'
            exact ⟨b, rfl, q ρ' H' _ y' rp' (.bl b)⟩
          | _ => exact q.elim
        | exc _ _ _ => rw [e3] at q; exact q.elim
        | bad => rw [e3] at q; exact q.elim
theorem i_neA (FF : FC G X.prog X.w X.K X.mg X.base k f Fm []) (cn : Cn X E (k + 1)) (hn : PySem.W.findIn X.K (.ref (G.cls c)) "__ne__" = some (some (.builtin "object.__ne__"))) (ho : PySem.W.mroIn X.K (G.cls c) (.type "object") = some true) (hs : PySem.W.findIn X.K (.ref (G.cls c)) "__eq__" = some (some (.ref f))) (hf : PySem.W.isFn X.K (.ref f) = true) : OpI G X (compareOp .NotEq) (gNeA c Fm) := by
  intro p pins s σ H v u v' u' Q I rv ru ⟨ρ, s0, x, y, rp, r1, r2, q⟩
  unfold gNeA at q
  cases e1 : isC p s0 c x with
  | false => rw [e1] at q; exact i_ne cn.u64 p pins s σ H v u v' u' Q I rv ru ⟨ρ, s0, x, y, rp, r1, r2, q⟩
  | true =>
    rw [e1] at q
    cases e2 : (isC p s0 c y || okR p s0 y) with
    | false => rw [e2] at q; exact q.elim
    | true =>
      rw [e2] at q
      dsimp only at q
      obtain ⟨tb, hb, hnf⟩ := right_ok (c := c) I rp r2 ru e2
      obtain ⟨a, dx, gs, rfl, ha, _⟩ := obj_at rp r1 e1
      cases rv
      obtain ⟨mA, J, _⟩ := ins_get I.hok ha
      obtain ⟨od, J, _⟩ := J.look
      obtain ⟨m, hF⟩ := I.fr
      show wpAny (model X.prog X.w) X.A (richCompare .NotEq (.ref a) u') (EP X pins σ Q) X.xe s
      refine cmp_neA cn.u1 hF I.ok.mod.kin J hb hnf hn hs hf ho ?_
      obtain ⟨fd, ps, dvs, ds, F, bnd, hd, rdf⟩ := FF.ex
      have rdn := rdf ρ H
      cases rdn
      cases hd
      have hz : spI G Fm ([.ref a, u] ++ []) H (fun v H' => ∃ b, v = .bl b ∧ Q (.bl (!b)) H') (fun _ _ _ => False) := sp_of (.cons r1 (.cons r2 .nil)) rp ?_
      · have rr : Vals [V.ref a, u] [Value.ref a, u'] := .cons rfl (.cons ru .nil)
        have go := F.run X.A.in1 X.stack s H ⟨[.ref a, u'], []⟩ [.ref a, u'] [.ref a, u] (fun v H' => ∃ b, v = .bl b ∧ Q (.bl (!b)) H') (fun _ _ _ => False) ⟨cn.room.hd, by have := cn.room.dp; show X.A.depth + 3 * k + 5 < _; omega, by have := cn.room.un; show X.A.units + 1 + 16 * k + 200 < _; omega⟩ cn.gd I.env0.in1 (bnd s _ I.kIn (by have := F.len _ _ _ _ hz; simpa using this)) rr hz
        refine wpAny_call (codeAny_mono go fun r s' hq => ?_)
        match r, hq with
        | .error e, hq =>
          obtain ⟨_, _, _, _, _, _, _, _, _, _, _, _, z⟩ := hq
          exact z.elim
        | .ok (.ret u), hq =>
          obtain ⟨v, H', J3, rv, b, rfl, hq2⟩ := I.after hq
          obtain rfl : u = Value.bool b := rv
          exact ⟨b, rfl, ⟨.bl (!b), H', J3, rfl, hq2⟩⟩
        | .ok .next, hq => exact hq.elim
        | .ok .brk, hq => exact hq.elim
        | .ok .cont, hq => exact hq.elim
      · cases e3 : callF Fm p [x, y] s0 with
        | ok w s' =>
          rw [e3] at q
          cases w with
          | bl b =>
            intro ρ' H' v' y' rp' rv'
            cases rv'
            exact ⟨b, rfl, q ρ' H' _ y' rp' (.bl (!b))⟩
          | _ => exact q.elim
        | exc _ _ _ => rw [e3] at q; exact q.elim
        | bad => rw [e3] at q; exact q.elim
end
end CC
set_option Elab.async false
set_option linter.all false
set_option maxRecDepth 100000
set_option maxHeartbeats 2000000
/-! CCDc: {k: v for .. in ..}, keys ints or texts -/
namespace CC
open PySem PySem.Spec PyProof.Rows L2
def dcI (p : Hh) (ct : CTg) (t : Lo → S → R Bool) (ek ev : Lo → S → R W) (d : ItD) (n : Nat) : Nat → Nat → Lo → S → R W
  | 0, _, _, _ => .bad
  | k + 1, i, l, s => match d.next p s i with
    | none => .bad
    | some none => .ok (.ref n) s
    | some (some w) => match ct.bind w l with
      | none => .bad
      | some l1 => match t l1 s with
        | .ok false s1 => dcI p ct t ek ev d n k (i + 1) l s1
        | .ok true s1 => (match ek l1 s1 with
          | .ok x s2 => (match ev l1 s2 with
            | .ok y s3 => (match rd p s3 n, keyW x with
              | some (.dct kvs), some key => if kvs.length ≤ 1000000 then dcI p ct t ek ev d n k (i + 1) l (wr p s3 n (.dct (putKW kvs key y))) else .bad
              | _, _ => .bad)
            | _ => .bad)
          | _ => .bad)
        | _ => .bad
def eDc (p : Hh) (ct : CTg) (mi : Lo → S → R ItD) (t : Lo → S → R Bool) (ek ev : Lo → S → R W) : Lo → S → R W := fun l s => (mi l s).bind fun d s1 =>
  dcI p ct t ek ev d (nxt p s1) (d.cnt p s1 + 1) 0 (wipeL l ct.slots) (al s1 (.dct []))
section
variable {G : GE} {p : Hh} {E : WX} {X : Cx} {k : Nat} {pos pos' : Pos} {ρ : List Addr} {H : Hp} {s : S} {l : Lo} {σ : L2.St}
variable {kx vx tg iter : Expr} {ifs : List Expr} {scope : Scope} {own : List (Str × Nat)} {ct : CTg} {mi : Lo → S → R ItD} {mt : Lo → S → R Bool} {mk mv : Lo → S → R W}
theorem dc_way {J : It} {D : Addr} {d : ItD} {Q : VK} {E1 : XK} {tgg : TG} (nd : ct.slots.Nodup) (hh : ∀ i ∈ ct.slots, G.hold ≠ some i) {ρ0 : List Addr} {H0 : Hp} (ri : RI G p ρ0 H0 d J) (rl0 : RL G ρ0 H0 l σ) {s0 : S} (rp0 : Rep G ρ0 p s0 H0) (hD : H0 D = none)
    (h : PoV G p ρ0 H0 (dcI p ct mt mk mv d (nxt p s0) (d.cnt p s0 + 1) 0 (wipeL l ct.slots) (al s0 (.dct []))) Q E1) :
    ∃ Wn : Nat → Nat → Hp → Prop, (∃ m, Wn 0 m (upd H0 D (.dK []))) ∧ ∀ i m H, Wn i m H →
      (J.stop i H ∧ Q (.ref D) H) ∨ (J.go i H ∧ ∃ Nx : Hp → Prop, (∀ H', Nx H' → ∃ m', m' < m ∧ Wn (i + 1) m' H') ∧ ∀ x H', J.yld i H x H' → ct.tg X.K x (wipe σ ct.slots) H' fun σ2 H2 => wipe σ2 ct.slots = wipe σ ct.slots ∧ tT G p E0 mt σ2 H2 fun b H3 =>
        if b = true then tI G p E0 mk σ2 H3 fun y H4 => tI G p E0 mv σ2 H4 fun z H5 => ∃ kvs key, y = kV key ∧ H5 D = some (.dK kvs) ∧ kvs.length < sizeLine ∧ Nx (upd H5 D (.dK (putK kvs key z))) else Nx H3) := by
  generalize hn : nxt p s0 = n at h
  generalize d.cnt p s0 + 1 = fuel at h
  obtain ⟨x1, rp1, rv1⟩ := rp0.al_ (o := .dct []) (u := .dK []) hD (.dK rfl .nil)
  rw [hn] at rv1
  have eD : (ρ0 ++ [D])[n]? = some D := by cases rv1; assumption
  refine ⟨fun i m H => ∃ ρ' s', Ex (ρ0 ++ [D]) (upd H0 D (.dK [])) ρ' H ∧ Rep G ρ' p s' H ∧ PoV G p ρ' H (dcI p ct mt mk mv d n m i (wipeL l ct.slots) s') Q E1, ⟨fuel, _, _, Ex.rfl', rp1, PoA.base h x1⟩, ?_⟩
  rintro i m H1 ⟨ρ1, s1, x2, rp2, h1⟩
  have eD1 := x2.get eD
  cases m with
  | zero => exact h1.elim
  | succ m =>
    unfold dcI at h1
    cases q : d.next p s1 i with
    | none => rw [q] at h1; exact h1.elim
    | some o =>
      rw [q] at h1
      cases o with
      | none => exact .inl ⟨ri.no i s1 ρ1 H1 (x1.trans x2) rp2 q, h1 ρ1 H1 _ Ex.rfl' rp2 (.ref eD1)⟩
      | some w =>
        obtain ⟨go, yl⟩ := ri.yes i w s1 ρ1 H1 (x1.trans x2) rp2 q
        refine .inr ⟨go, fun H' => ∃ ρ' s', Ex (ρ0 ++ [D]) (upd H0 D (.dK [])) ρ' H' ∧ Rep G ρ' p s' H' ∧ PoV G p ρ' H' (dcI p ct mt mk mv d n m (i + 1) (wipeL l ct.slots) s') Q E1, fun H' z => ⟨m, Nat.lt_succ_self m, z⟩, fun v H2 y => ?_⟩
        obtain ⟨x3, rp3, rv⟩ := yl v H2 y
        dsimp only at h1
        cases q2 : ct.bind w (wipeL l ct.slots) with
        | none => rw [q2] at h1; exact h1.elim
        | some l1 =>
          rw [q2] at h1
          dsimp only at h1
          refine ct_bind nd hh (((rl0.mono x1).mono x2).mono x3) rv q2 fun σ2 rl2 hw => ⟨hw, ρ1, l1, s1, rl2, rp3, ?_⟩
          have h1 := PoA.base h1 x3
          cases q3 : mt l1 s1 with
          | bad => rw [q3] at h1; exact h1.elim
          | exc _ _ _ => rw [q3] at h1; exact h1.elim
          | ok b s2 =>
            rw [q3] at h1
            intro ρ4 H4 b' x4 rp4 eb
            cases eb
            cases b with
            | false => exact ⟨ρ4, s2, ((x2.trans x3).trans x4), rp4, PoA.base h1 x4⟩
            | true =>
              dsimp only at h1
              refine ⟨ρ4, l1, s2, rl2.mono x4, rp4, ?_⟩
              have h1 := PoA.base h1 x4
              cases q4 : mk l1 s2 with
              | bad => rw [q4] at h1; exact h1.elim
              | exc _ _ _ => rw [q4] at h1; exact h1.elim
              | ok xw s3 =>
                rw [q4] at h1
                dsimp only at h1
                intro ρ5 H5 xv x5 rp5 rv5
                have h1 := PoA.base h1 x5
                refine ⟨ρ5, l1, s3, (rl2.mono x4).mono x5, rp5, ?_⟩
                cases q4' : mv l1 s3 with
                | bad => rw [q4'] at h1; exact h1.elim
                | exc _ _ _ => rw [q4'] at h1; exact h1.elim
                | ok yw s4 =>
                  rw [q4'] at h1
                  dsimp only at h1
                  intro ρ6 H6 yv x6 rp6 rv6
                  have h1 := PoA.base h1 x6
                  have eD6 := x6.get (x5.get (x4.get (x3.get eD1)))
                  cases q5 : rd p s4 n with
                  | none => rw [q5] at h1; exact h1.elim
                  | some ob =>
                    rw [q5] at h1
                    cases q6 : keyW xw with
                    | none => rw [q6] at h1; cases ob <;> exact h1.elim
                    | some key =>
                      rw [q6] at h1
                      obtain ⟨u, hu, ro⟩ := rp6.at q5 eD6
                      cases ro with
                      | @dK kvs ks r r2 =>
                        dsimp only at h1
                        by_cases hl : kvs.length ≤ 1000000
                        · rw [if_pos hl] at h1
                          have hks : kvs.length = ks.length := by
                            have := congrArg List.length r
                            simpa using this
                          refine ⟨ks, key, key_ok (rv5.mono x6) q6, hu, by rw [← hks, sizeLine_eq]; omega, ?_⟩
                          have xx : ∀ o', Ex ρ6 H6 ρ6 (upd H6 D o') := fun o' => ⟨⟨[], by simp⟩, fun _ h n => absurd h n, fun b o nb hb => by
                            have ne : b ≠ D := fun z => nb (by rw [z]; exact List.mem_of_getElem? eD6)
                            rw [upd_ne ne]; exact hb⟩
                          obtain ⟨y1, y2⟩ := putKW_ok (k := key) (rv6.mono (xx (.dK (putK ks key yv)))) r (r2.mono (xx _))
                          obtain ⟨_, rp7⟩ := rp6.wr_ eD6 (o := .dct (putKW kvs key yw)) (u := .dK (putK ks key yv)) (.dK y1 y2)
                          exact ⟨ρ6, _, ((((x2.trans x3).trans x4).trans x5).trans x6).trans (xx _), rp7, PoA.base h1 (xx _)⟩
                        · rw [if_neg hl] at h1; exact h1.elim
                      | _ => exact h1.elim
theorem se_dc (cn : Cn X E k) (hi : SI G p E X tg iter mi) (ok : BlkOk X.N X.env.scope scope own) (hown : own.map (·.2) = ct.slots) (hnd : ct.slots.Nodup)
    (hg : ∀ (s : Shared) (H : Hp) (C : Addr) (cl : List (Str × Addr)) (fp : List Addr), PG (X.blk s H scope (compEnvC scope cl C X.env) fp) tg (ct.tg X.K))
    (ht : ∀ (s : Shared) (H : Hp) (C : Addr) (cl : List (Str × Addr)) (fp : List Addr), Cn (X.blk s H scope (compEnvC scope cl C X.env) fp) E0 k → STs G p E0 (X.blk s H scope (compEnvC scope cl C X.env) fp) ifs mt)
    (hk : ∀ (s : Shared) (H : Hp) (C : Addr) (cl : List (Str × Addr)) (fp : List Addr), Cn (X.blk s H scope (compEnvC scope cl C X.env) fp) E0 k → SE G p E0 (X.blk s H scope (compEnvC scope cl C X.env) fp) kx mk)
    (he : ∀ (s : Shared) (H : Hp) (C : Addr) (cl : List (Str × Addr)) (fp : List Addr), Cn (X.blk s H scope (compEnvC scope cl C X.env) fp) E0 k → SE G p E0 (X.blk s H scope (compEnvC scope cl C X.env) fp) vx mv)
    (hs : ∀ x, foldedSetIterable iter X.env x = pure x := by intro _; rfl) (hh : ∀ i ∈ ct.slots, G.hold ≠ some i := by intro _ _ z; cases z) : SE G p E X (.DictComp kx vx [⟨tg, iter, ifs, 0⟩] scope pos) (eDc p ct mi mt mk mv) := by
  have h0 := pe_dc (pos := pos) (kx := kx) (vx := vx) (ifs := ifs) (own := own) cn.calm cn.nd hi ok hg (fun s H C cl fp => ht s H C cl fp (cn_blk cn)) (fun s H C cl fp => hk s H C cl fp (cn_blk cn)) (fun s H C cl fp => he s H C cl fp (cn_blk cn)) hs
  rw [hown] at h0
  exact PE_imp h0 fun σ H Q ⟨ρ, l, s, rl, rp, h⟩ => ⟨ρ, l, s, rl, rp, PoA.bind h fun d s1 ρ1 H1 J x1 rp1 ri h1 => fun D hD => dc_way (X := X) (tgg := ct.tg X.K) hnd hh ri (rl.mono x1) rp1 hD h1⟩
/-- name = {..} on one line, the name a local -/
theorem ps_setDc {X : Cx} {i : Nat} {y : Str} {py : Pos} {kx vx tg iter : Expr} {ifs : List Expr} {scope : Scope} {own : List (Str × Nat)} {pos spos : Pos} {wi : TI} {g : TG} {tt : TT} {tk tv : TE} (hc : X.calm = true) (hN : X.N.Nodup) (hy : X.N[i]? = some y) (hyl : X.env.scope.names.lookup y = some .local)
    (hsw : swapsWith (.DictComp kx vx [⟨tg, iter, ifs, 0⟩] scope pos) (some (.Name y py)) spos.line X.env = pure true) (hi : PI X tg iter wi) (ok : BlkOk X.N X.env.scope scope own)
    (hg : ∀ (s : Shared) (H : Hp) (C : Addr) (cl : List (Str × Addr)) (fp : List Addr), PG (X.blk s H scope (compEnvC scope cl C X.env) fp) tg g) (ht : ∀ (s : Shared) (H : Hp) (C : Addr) (cl : List (Str × Addr)) (fp : List Addr), PTs (X.blk s H scope (compEnvC scope cl C X.env) fp) ifs tt)
    (hk : ∀ (s : Shared) (H : Hp) (C : Addr) (cl : List (Str × Addr)) (fp : List Addr), PE (X.blk s H scope (compEnvC scope cl C X.env) fp) kx tk)
    (he : ∀ (s : Shared) (H : Hp) (C : Addr) (cl : List (Str × Addr)) (fp : List Addr), PE (X.blk s H scope (compEnvC scope cl C X.env) fp) vx tv) (hs : ∀ x, foldedSetIterable iter X.env x = pure x := by intro _; rfl) :
    PS X (.Assign [.Name y py] (.DictComp kx vx [⟨tg, iter, ifs, 0⟩] scope pos) spos) (tAsg (tDc wi g tt tk tv (own.map (·.2))) (gName i)) := by
  refine ⟨fun pins s σ H D I h => ?_⟩
  rw [exec_Assign_Name_used _ _ _ _ hsw]
  refine wpAny_bind (wpAny_standAt (wpAny_bind ?_))
  show wpAny _ X.A (do let _ ← comprehension (.DictComp kx vx [⟨tg, iter, ifs, 0⟩] scope pos) scope X.env (firstIterPos [⟨tg, iter, ifs, 0⟩] pos) newDict false (eval iter X.env) (some (assign (.Name y py) X.env))) _ _ s
  have h : tDc wi g tt tk tv (own.map (·.2)) σ H (fun x H1 => gName i x σ H1 D.nx) := h
  refine wpAny_bind (thn (dc_core (Qf := fun _ s' => SP X pins D .next s') hc hN I hi ok hg ht hk he hs h fun L C s' m H' I' q hn f => ?_) fun _ s' hq => wpAny_pure (wpAny_pure hq))
  show wpAny _ _ (assign (.Name y py) X.env (.ref L)) _ _ _
  refine wpAny_assign_Name (store_ok2 (v := V.ref L) I' hN hy (.inl hyl) rfl (fun s2 I2 ⟨a, sb, ha⟩ => ?_) (.inr hyl))
  obtain ⟨f0, f1, f2, f3, f4, f5⟩ := f
  have haC : C ≠ a := by
    rcases ha with z | z
    · rw [z]; exact f1
    · exact fun e => f4 y a z e.symm
  refine ⟨m, hn.sameBut sb haC, fun h3 sb3 => ?_⟩
  exact ⟨_, H', I2.turned (t' := s2.toks) (fun b o hb e => (sb3.2 b hb).trans e) f0 f1 f3 f4 f5, q⟩
theorem sw_trueD {kx vx : Expr} {gs : List Comprehension} {scope : Scope} {pos py : Pos} {y : Str} {l : Nat} {env : Env} (hk : env.scope.kind = .function) (hy : env.scope.names.lookup y = some .local) (hl : (py.line == pos.line) = true)
    (ha : (scope.names.any fun (n, k) => n == y && (k == .local || k == .cell)) = false) : swapsWith (.DictComp kx vx gs scope pos) (some (.Name y py)) l env = pure true := by
  have ky : env.kindOf y = some .local := hy
  have hb : env.blockKind = .function := by unfold Env.blockKind; rw [hk]; rfl
  unfold swapsWith
  simp only [hb, ky, ha, Expr.pos, hl]
  rfl
theorem ss_setDc (i : Nat) {y : Str} {py spos : Pos} (cn : Cn X E k) (hi : SI G p E X tg iter mi) (ok : BlkOk X.N X.env.scope scope own) (hown : own.map (·.2) = ct.slots) (hnd : ct.slots.Nodup)
    (hg : ∀ (s : Shared) (H : Hp) (C : Addr) (cl : List (Str × Addr)) (fp : List Addr), PG (X.blk s H scope (compEnvC scope cl C X.env) fp) tg (ct.tg X.K))
    (ht : ∀ (s : Shared) (H : Hp) (C : Addr) (cl : List (Str × Addr)) (fp : List Addr), Cn (X.blk s H scope (compEnvC scope cl C X.env) fp) E0 k → STs G p E0 (X.blk s H scope (compEnvC scope cl C X.env) fp) ifs mt)
    (hk : ∀ (s : Shared) (H : Hp) (C : Addr) (cl : List (Str × Addr)) (fp : List Addr), Cn (X.blk s H scope (compEnvC scope cl C X.env) fp) E0 k → SE G p E0 (X.blk s H scope (compEnvC scope cl C X.env) fp) kx mk)
    (he : ∀ (s : Shared) (H : Hp) (C : Addr) (cl : List (Str × Addr)) (fp : List Addr), Cn (X.blk s H scope (compEnvC scope cl C X.env) fp) E0 k → SE G p E0 (X.blk s H scope (compEnvC scope cl C X.env) fp) vx mv)
    (hsw : swapsWith (.DictComp kx vx [⟨tg, iter, ifs, 0⟩] scope pos) (some (.Name y py)) spos.line X.env = pure true) (hy : X.N[i]? = some y := by rfl) (hyl : X.env.scope.names.lookup y = some .local := by rfl)
    (hs : ∀ x, foldedSetIterable iter X.env x = pure x := by intro _; rfl) (hh : ∀ i ∈ ct.slots, G.hold ≠ some i := by intro _ _ z; cases z) (hh2 : G.hold ≠ some i := by intro z; cases z) : SS G p E X (.Assign [.Name y py] (.DictComp kx vx [⟨tg, iter, ifs, 0⟩] scope pos) spos) (sAsg (gNm i) (eDc p ct mi mt mk mv)) := by
  have h0 := ps_setDc (spos := spos) (pos := pos) (kx := kx) (vx := vx) (ifs := ifs) (own := own) cn.calm cn.nd hy hyl hsw hi ok hg (fun s H C cl fp => ht s H C cl fp (cn_blk cn)) (fun s H C cl fp => hk s H C cl fp (cn_blk cn)) (fun s H C cl fp => he s H C cl fp (cn_blk cn)) hs
  rw [hown] at h0
  refine PS_imp h0 fun D σ H ⟨ρ, l, s, rl, rp, h⟩ => ⟨ρ, l, s, rl, rp, ?_⟩
  have h1 := PoS.val (Q := fun v H1 => gName i v σ H1 D.nx) rl h fun w s1 ρ1 H1 v x1 rp1 rv1 h1 => h1 ρ1 H1 _ Ex.rfl' rp1 ((rl.mono x1).set i rv1 hh2)
  exact PoA.bind h1 fun d s1 ρ1 H1 J x1 rp1 ri h1 => fun D' hD => dc_way (X := X) (tgg := ct.tg X.K) hnd hh ri (rl.mono x1) rp1 hD h1
end
end CC
set_option Elab.async false
set_option linter.all false
set_option maxRecDepth 100000
/-! CCUnp: a, b = a tuple or a list -/
namespace CC
open PySem PySem.Spec PyProof.Rows L2
def gUnpT (n : Nat) (r : List W → Lo → S → OG) (p : Hh) : W → Lo → S → OG := fun w l s => match w with
  | .tup ws => if ws.length = n then r ws l s else none
  | .ref m => (match cellItems p s m with
    | some ws => if ws.length = n then r ws l s else none
    | none => none)
  | _ => none
section
variable {G : GE} {p : Hh} {X : Cx} {tgs : List Expr} {gs : List W → Lo → S → OG} {pos : Pos}
theorem pg_or {e : Expr} {t t' : TG} (h : PG X e t) (h' : PG X e t') : PG X e (fun v σ H Q => t v σ H Q ∨ t' v σ H Q) :=
  ⟨fun pins s σ H v u Q I r w => w.elim (fun w => h.run pins s σ H v u Q I r w) fun w => h'.run pins s σ H v u Q I r w⟩
theorem sg_unp {n : Nat} {kk : Nat} (hc : X.calm = true) (h : SGs G p X tgs gs) (hn : (assignEach tgs X.env).length = n := by rfl) (hst : (assignEach tgs X.env).findIdx? (·.1) = none := by rfl) : SG G p X (.Tuple tgs kk pos) (gUnpT n gs p) :=
  PG_imp (pg_or (pg_tup hc h hn hst) (pg_unl hc h hn hst)) fun v σ H Q ⟨ρ, l, s, w, rl, rp, rv, h⟩ => by
    cases rv with
    | @tup a ws vs na ha r =>
      unfold gUnpT at h
      dsimp only at h
      split at h
      · rename_i hl
        exact .inl ⟨_, vs, rfl, SqT.of ha, by rw [← r.len]; exact hl, ρ, l, s, ws, rl, rp, r, h⟩
      · exact h.elim
    | @ref m a e =>
      unfold gUnpT at h
      dsimp only at h
      cases q : cellItems p s m with
      | none => rw [q] at h; exact h.elim
      | some ws =>
        rw [q] at h
        dsimp only at h
        split at h
        · rename_i hl
          obtain ⟨vs, hq, r⟩ := cell_seq (K := X.K) rp q e
          exact .inr ⟨a, vs, rfl, hq, by rw [← r.len]; exact hl, ρ, l, s, ws, rl, rp, r, h⟩
        · exact h.elim
    | _ => exact h.elim
end
end CC
set_option Elab.async false
set_option linter.all false
set_option maxRecDepth 100000
/-! CCMin: min and max of a list of ints -/
namespace CC
open PySem PySem.Spec PyProof.Rows L2
def mnI : List Int → Option Int
  | [] => none
  | n :: ns => some (ns.foldl min n)
def mxI : List Int → Option Int
  | [] => none
  | n :: ns => some (ns.foldl max n)
theorem foldmin (ns : List Int) : ∀ n : Int, (ns.foldl min n = n ∨ ns.foldl min n ∈ ns) ∧ ns.foldl min n ≤ n ∧ ∀ y ∈ ns, ns.foldl min n ≤ y := by
  induction ns with
  | nil => intro n; exact ⟨.inl rfl, Int.le_refl _, fun y m => nomatch m⟩
  | cons a ns ih =>
    intro n
    obtain ⟨h1, h2, h3⟩ := ih (min n a)
    show ((ns.foldl min (min n a)) = n ∨ (ns.foldl min (min n a)) ∈ a :: ns) ∧ (ns.foldl min (min n a)) ≤ n ∧ ∀ y ∈ a :: ns, (ns.foldl min (min n a)) ≤ y
    refine ⟨?_, by omega, fun y m => ?_⟩
    · rcases h1 with h1 | h1
      · rw [h1]
        rcases Int.le_total n a with h | h
        · left; omega
        · right; rw [show min n a = a by omega]; exact List.mem_cons_self ..
      · exact .inr (List.mem_cons_of_mem _ h1)
    · rcases List.mem_cons.mp m with rfl | m
      · omega
      · exact h3 y m
theorem foldmax (ns : List Int) : ∀ n : Int, (ns.foldl max n = n ∨ ns.foldl max n ∈ ns) ∧ n ≤ ns.foldl max n ∧ ∀ y ∈ ns, y ≤ ns.foldl max n := by
  induction ns with
  | nil => intro n; exact ⟨.inl rfl, Int.le_refl _, fun y m => nomatch m⟩
  | cons a ns ih =>
    intro n
    obtain ⟨h1, h2, h3⟩ := ih (max n a)
    show ((ns.foldl max (max n a)) = n ∨ (ns.foldl max (max n a)) ∈ a :: ns) ∧ n ≤ (ns.foldl max (max n a)) ∧ ∀ y ∈ a :: ns, y ≤ (ns.foldl max (max n a))
    refine ⟨?_, by omega, fun y m => ?_⟩
    · rcases h1 with h1 | h1
      · rw [h1]
        rcases Int.le_total a n with h | h
        · left; omega
        · right; rw [show max n a = a by omega]; exact List.mem_cons_self ..
      · exact .inr (List.mem_cons_of_mem _ h1)
    · rcases List.mem_cons.mp m with rfl | m
      · omega
      · exact h3 y m
theorem mnI_ok {ns : List Int} {k m : Int} (h : mnI ns = some k) (h1 : m ∈ ns) (h2 : ∀ y, y ∈ ns → m ≤ y) : m = k := by
  cases ns with
  | nil => cases h
  | cons n ns =>
    injection h with h
    obtain ⟨a, b, c⟩ := foldmin ns n
    rw [h] at a b c
    have k1 : k ∈ n :: ns := a.elim (fun e => by rw [e]; exact List.mem_cons_self ..) (List.mem_cons_of_mem _)
    have := h2 k k1
    rcases List.mem_cons.mp h1 with rfl | h1
    · omega
    · have := c m h1; omega
theorem mxI_ok {ns : List Int} {k m : Int} (h : mxI ns = some k) (h1 : m ∈ ns) (h2 : ∀ y, y ∈ ns → y ≤ m) : m = k := by
  cases ns with
  | nil => cases h
  | cons n ns =>
    injection h with h
    obtain ⟨a, b, c⟩ := foldmax ns n
    rw [h] at a b c
    have k1 : k ∈ n :: ns := a.elim (fun e => by rw [e]; exact List.mem_cons_self ..) (List.mem_cons_of_mem _)
    have := h2 k k1
    rcases List.mem_cons.mp h1 with rfl | h1
    · omega
    · have := c m h1; omega
def fMinL (p : Hh) (xs : List W) (s : S) : O2 := match xs with
  | [w] => (match cellL p s w with
    | some ws => (match isInts ws with
      | some ns => (match mnI ns with | some k => some (.int k, s) | none => none)
      | none => none)
    | none => none)
  | _ => none
def fMaxL (p : Hh) (xs : List W) (s : S) : O2 := match xs with
  | [w] => (match cellL p s w with
    | some ws => (match isInts ws with
      | some ns => (match mxI ns with | some k => some (.int k, s) | none => none)
      | none => none)
    | none => none)
  | _ => none
section
variable {G : GE} {X : Cx}
theorem c_minL (hc : X.calm = true) : CallI G X (.builtin "min") fMinL := by
  refine callI_of (cr_min hc) fun p ρ s H xs vs Q rp r h => ?_
  match xs, vs, r, h with
  | [], _, _, h => exact h.elim
  | _ :: _ :: _, _, _, h => exact h.elim
  | [w], [v], .cons r1 .nil, h =>
    unfold fMinL at h
    dsimp only at h
    split at h
    · rename_i ws e
      obtain ⟨a, vs, rfl, r2, r3⟩ := cellL_at (K := X.K) rp r1 e
      split at h
      · rename_i ns e2
        obtain rfl := isInts_ok e2 r2
        split at h
        · rename_i k e3
          refine ⟨a, ns, rfl, r3, ?_, fun m m1 m2 => ?_⟩
          · cases ns with
            | nil => cases e3
            | cons n ns => exact Nat.succ_pos _
          · rw [mnI_ok e3 m1 m2]; exact po_v h rp (.int _)
        · exact h.elim
      · exact h.elim
    · exact h.elim
theorem c_maxL (hc : X.calm = true) : CallI G X (.builtin "max") fMaxL := by
  refine callI_of (cr_max hc) fun p ρ s H xs vs Q rp r h => ?_
  match xs, vs, r, h with
  | [], _, _, h => exact h.elim
  | _ :: _ :: _, _, _, h => exact h.elim
  | [w], [v], .cons r1 .nil, h =>
    unfold fMaxL at h
    dsimp only at h
    split at h
    · rename_i ws e
      obtain ⟨a, vs, rfl, r2, r3⟩ := cellL_at (K := X.K) rp r1 e
      split at h
      · rename_i ns e2
        obtain rfl := isInts_ok e2 r2
        split at h
        · rename_i k e3
          refine ⟨a, ns, rfl, r3, ?_, fun m m1 m2 => ?_⟩
          · cases ns with
            | nil => cases e3
            | cons n ns => exact Nat.succ_pos _
          · rw [mxI_ok e3 m1 m2]; exact po_v h rp (.int _)
        · exact h.elim
      · exact h.elim
    · exact h.elim
end
end CC
set_option Elab.async false
set_option linter.all false
set_option maxRecDepth 100000
/-! CCEvn: every second item of a list -/
namespace CC
open PySem PySem.Spec PyProof.Rows L2
def evs {α : Type _} : List α → List α
  | [] => []
  | [x] => [x]
  | x :: _ :: l => x :: evs l
def evk {α : Type _} (b : Bool) (l : List α) : List α := if b then evs (l.drop 1) else evs l
theorem fm_congr {α β : Type _} {f g : α → Option β} : ∀ {l : List α}, (∀ x ∈ l, f x = g x) → l.filterMap f = l.filterMap g
  | [], _ => rfl
  | a :: l, h => by
    rw [List.filterMap_cons, List.filterMap_cons, h a (List.mem_cons_self ..), fm_congr fun x m => h x (List.mem_cons_of_mem _ m)]
theorem evs_one {α : Type _} (x : α) : evs [x] = [x] := by unfold evs; rfl
theorem evs_two {α : Type _} (x y : α) (l : List α) : evs (x :: y :: l) = x :: evs l := by rw [evs]
theorem evs_mem {α : Type _} {x : α} : ∀ {l : List α}, x ∈ evs l → x ∈ l
  | [], h => h
  | [_], h => h
  | _ :: _ :: _, h => by
    unfold evs at h
    rcases List.mem_cons.mp h with rfl | h
    · exact List.mem_cons_self ..
    · exact List.mem_cons_of_mem _ (List.mem_cons_of_mem _ (evs_mem h))
theorem evk_mem {α : Type _} {x : α} {b : Bool} {l : List α} (h : x ∈ evk b l) : x ∈ l := by
  unfold evk at h
  split at h
  · exact List.mem_of_mem_drop (evs_mem h)
  · exact evs_mem h
theorem evs_len {α : Type _} : ∀ l : List α, (evs l).length = (l.length + 1) / 2
  | [] => by simp [evs]
  | [_] => by simp [evs]
  | _ :: _ :: l => by rw [evs_two, List.length_cons, evs_len l, List.length_cons, List.length_cons]; omega
theorem evk_le {α : Type _} (b : Bool) (l : List α) : (evk b l).length ≤ l.length := by
  unfold evk
  split
  · rw [evs_len, List.length_drop]; omega
  · rw [evs_len]; omega
theorem evs_map {α β : Type _} (f : α → β) : ∀ l : List α, (evs l).map f = evs (l.map f)
  | [] => rfl
  | [_] => rfl
  | _ :: _ :: l => by unfold evs; rw [List.map_cons, evs_map f l]; rfl
theorem evk_map {α β : Type _} (f : α → β) (b : Bool) (l : List α) : (evk b l).map f = evk b (l.map f) := by
  unfold evk
  split
  · rw [evs_map, List.map_drop]
  · rw [evs_map]
theorem evs_pick {α : Type _} : ∀ (l : List α), ((List.range ((l.length + 1) / 2)).map fun k => 2 * k).filterMap (fun i => l[i]?) = evs l
  | [] => by simp [evs]
  | [x] => by
    rw [evs_one]
    simp
  | x :: y :: l => by
    rw [show ((x :: y :: l).length + 1) / 2 = (l.length + 1) / 2 + 1 by simp only [List.length_cons]; omega, List.range_succ_eq_map, List.map_cons, List.filterMap_cons]
    show x :: _ = _
    unfold evs
    refine congrArg _ ((Eq.trans ?_ (evs_pick l)))
    rw [List.map_map, List.filterMap_map, List.filterMap_map]
    exact fm_congr fun k _ => by
      show (x :: y :: l)[2 * (k + 1)]? = l[2 * k]?
      rw [show 2 * (k + 1) = 2 * k + 1 + 1 by omega, List.getElem?_cons_succ, List.getElem?_cons_succ]
theorem evk_pick (b : Bool) (its : List Value) : slicePick its.toArray (if b then some 1 else none) none (some 2) = (evk b its).toArray := by
  unfold slicePick
  refine congrArg List.toArray ?_
  have key : ∀ (k n : Nat), k ≤ n → sliceRange (k : Int) (n : Int) 2 = (List.range ((n - k + 1) / 2)).map fun i => k + 2 * i := fun k n h => by
    unfold sliceRange
    have h1 : (2 : Int) > 0 := by decide
    by_cases hk : (k : Int) < n
    · have e : (((n : Int) - k + 2 - 1) / 2).toNat = (n - k + 1) / 2 := by omega
      simp only [h1, if_true, hk, e]
      exact List.map_congr_left fun i _ => by omega
    · have e : n = k := by omega
      subst e
      simp
  cases b with
  | false =>
    have e : sliceBounds (if false = true then some 1 else none) none (some 2) its.toArray.size = (((0 : Nat) : Int), ((its.length : Nat) : Int), 2) := by
      simp [sliceBounds]
    rw [e, key 0 its.length (by omega)]
    refine Eq.trans ?_ (evs_pick its)
    rw [show its.length - 0 + 1 = its.length + 1 by omega]
    rw [List.map_congr_left (g := fun k => 2 * k) fun k _ => by show 0 + 2 * k = 2 * k; omega]
    exact fm_congr fun i _ => by simp
  | true =>
    cases its with
    | nil => rfl
    | cons x l =>
      have e : sliceBounds (if true = true then some 1 else none) none (some 2) (x :: l).toArray.size = (((1 : Nat) : Int), (((x :: l).length : Nat) : Int), 2) := by
        simp [sliceBounds]
        omega
      rw [e, key 1 (x :: l).length (by simp)]
      refine Eq.trans ?_ (evs_pick l)
      rw [show (x :: l).length - 1 + 1 = l.length + 1 by simp, List.filterMap_map, List.filterMap_map]
      exact fm_congr fun i _ => by
        show (x :: l).toArray[1 + 2 * i]? = l[2 * i]?
        rw [List.getElem?_toArray, show 1 + 2 * i = 2 * i + 1 by omega, List.getElem?_cons_succ]
section
variable {G : GE} {X : Cx} {ρ : List Addr} {H : Hp} {p : Hh} {s : S} {E : WX} {a : Expr} {mo : Lo → S → R W} {pos : Pos}
def tEvs (K : PySem.W.Frag) (b : Bool) (te : TE) : TE := fun σ H Q => te σ H fun x H1 => ∃ a xs, x = .ref a ∧ SqL K H1 a xs ∧ ∀ p, H1 p = none → Q (.ref p) (upd H1 p (.lst (evk b xs)))
theorem RVs.evs : ∀ {ws : List W} {vs : List V}, RVs G ρ H ws vs → RVs G ρ H (evs ws) (evs vs)
  | _, _, .nil => .nil
  | _, _, .cons h .nil => .cons h .nil
  | _, _, .cons h (.cons _ t) => .cons h (RVs.evs t)
theorem RVs.evk {ws : List W} {vs : List V} (b : Bool) (h : RVs G ρ H ws vs) : RVs G ρ H (evk b ws) (evk b vs) := by
  unfold CC.evk
  split
  · exact (h.drop 1).evs
  · exact h.evs
theorem vals_evs : ∀ {xs : List V} {us : List Value}, Vals xs us → Vals (evs xs) (evs us)
  | _, _, .nil => .nil
  | _, _, .cons h .nil => .cons h .nil
  | _, _, .cons h (.cons _ t) => .cons h (vals_evs t)
theorem vals_evk {xs : List V} {us : List Value} (b : Bool) (h : Vals xs us) : Vals (evk b xs) (evk b us) := by
  unfold CC.evk
  split
  · refine vals_evs ?_
    cases h with
    | nil => exact .nil
    | cons r t => exact t
  · exact vals_evs h
theorem pe_evs {e : Expr} {te : TE} {b : Bool} {lo : Option Expr} {k : Nat} {p1 p3 : Pos} (hlo : PO X lo (fun σ H Q => Q (if b then some 1 else none) H)) (he : PE X e te) : PE X (.Subscript e (.Slice lo none (some (.Constant (.int 2) k p1)) p3) pos) (tEvs X.K b te) := by
  refine ⟨fun pins s σ H Q I h => ?_⟩
  refine Subscript_ (thn (he.run pins s σ H _ I h) fun v s1 ⟨x, H1, I1, r1, q1⟩ => ?_)
  obtain ⟨a, xs, ex, hx, q⟩ := q1
  subst ex
  cases r1
  have hst : PO X (some (.Constant (.int 2) k p1)) (tPart (tC (.int 2))) := po_some pe_int
  refine wpAny_Slice (thn (hlo.run pins s1 σ H1 (fun o H2 => o = (if b then some 1 else none) ∧ H2 = H1) I1 ⟨rfl, rfl⟩) fun vl s2 ⟨l, H2, I2, pl, el, e2⟩ => ?_)
  subst el e2
  refine thn (po_none.run pins s2 σ H2 (fun o H3 => o = none ∧ H3 = H2) I2 ⟨rfl, rfl⟩) fun vu s3 ⟨u, H3, I3, pu, eu, e3⟩ => ?_
  subst eu e3
  refine thn (hst.run pins s3 σ H3 (fun o H4 => o = some 2 ∧ H4 = H3) I3 ⟨2, rfl, rfl, rfl⟩) fun vs s4 ⟨o, H4, I4, ps, eo, e4⟩ => ?_
  subst eo e4
  have I5 : Inv X pins σ H4 { s4 with heap := s4.heap.push { cls := .type "slice", data := .fields #[vl, vu, vs] } } := I4.kept (t' := s4.toks) fun b ob q => Heap.get?_push_of_some _ q
  obtain ⟨its, r, ht, hz⟩ := I5.list hx
  have hlen := r.length
  show wpAny (model X.prog X.w) X.A (subscriptTail e (.Slice lo none (some (.Constant (.int 2) k p1)) p3) (.ref a) (.ref s4.heap.objs.size)) (EP X pins σ Q) X.xe { s4 with heap := s4.heap.push { cls := .type "slice", data := .fields #[vl, vu, vs] } }
  refine tail_any (ops := [.ref a, .ref s4.heap.objs.size]) ht.isList.typeIs (PySem.slot_list_getitem.lookup) ?_ (by with_unfolding_all rfl)
  refine wpAny_getItem_list_slice ht.isList (Heap.IsSliceOf.new _ vl vu vs) pl pu ps (by decide) ?_ (by rw [List.size_toArray]; omega)
  rw [evk_pick]
  refine ⟨.ref _, _, I5.laid (t' := s4.toks) (o := .lst (evk b xs)) (fun b ob q => Heap.get?_push_of_some _ q) (Nat.le_refl _) ?_, rfl, q _ (I5.hok.fresh (Nat.le_refl _))⟩
  exact ⟨Nat.le_trans (evk_le b xs) hz, _, 0, vals_evk b r, Heap.get?_push_size _ rfl⟩
theorem po_one {k : Nat} {p : Pos} : PO X (some (.Constant (.int 1) k p)) (fun σ H Q => Q (some 1) H) := PO_imp (po_some pe_int) fun σ H Q h => ⟨1, rfl, h⟩
/-- xs[::2] and xs[1::2] -/
def eEvs (b : Bool) (p : Hh) (mo : Lo → S → R W) : Lo → S → R W := fun l s => (mo l s).bind fun o s1 => match cellL p s1 o with
  | some ws => .ok (.ref (nxt p s1)) (al s1 (.lst (evk b ws)))
  | none => .bad
theorem se_evs {b : Bool} {lo : Option Expr} (hlo : PO X lo (fun σ H Q => Q (if b then some 1 else none) H)) {k : Nat} {p1 p3 : Pos} (ho : SE G p E X a mo) : SE G p E X (.Subscript a (.Slice lo none (some (.Constant (.int 2) k p1)) p3) pos) (eEvs b p mo) :=
  PE_imp (pe_evs hlo ho) fun σ H Q ⟨ρ, l, s, rl, rp, h⟩ => by
    unfold eEvs at h
    refine ⟨ρ, l, s, rl, rp, PoA.bind h fun w s1 ρ1 H1 v x1 rp1 rv1 h1 => ?_⟩
    cases z : cellL p s1 w with
    | none => rw [z] at h1; exact h1.elim
    | some ws =>
      rw [z] at h1
      obtain ⟨a', vs, rfl, r, hs⟩ := cellL_at (K := X.K) rp1 rv1 z
      exact ⟨a', vs, rfl, hs, fun q hq => po_lst (s := s1) rp1 (r.evk b) h1 hq⟩
theorem se_ev0 {k : Nat} {p1 p3 : Pos} (ho : SE G p E X a mo) : SE G p E X (.Subscript a (.Slice none none (some (.Constant (.int 2) k p1)) p3) pos) (eEvs false p mo) := se_evs (b := false) po_none ho
theorem se_ev1 {k k' : Nat} {p1 p2 p3 : Pos} (ho : SE G p E X a mo) : SE G p E X (.Subscript a (.Slice (some (.Constant (.int 1) k' p2)) none (some (.Constant (.int 2) k p1)) p3) pos) (eEvs true p mo) := se_evs (b := true) po_one ho
end
end CC
set_option Elab.async false
set_option linter.all false
set_option maxRecDepth 100000
set_option maxHeartbeats 2000000
/-! CCHalf: a dict of ints walked by its keys and read at each; its numbers are added to another dict at the keys beside -/
namespace CC
open PySem PySem.Spec PyProof.Rows L2
def valZ (L : List (Key × Int)) (k : Key) : Option Int := (L.find? fun q => decide (q.1 = k)).map (·.2)
def putZ (L : List (Key × Int)) (k : Key) (v : Int) : List (Key × Int) :=
  if (L.any fun q => decide (q.1 = k)) = true then L.map (fun q => if q.1 = k then (q.1, v) else q) else L ++ [(k, v)]
def toV (L : List (Key × Int)) : List (Key × V) := L.map fun q => (q.1, V.int q.2)
def toW (L : List (Key × Int)) : List (Key × W) := L.map fun q => (q.1, W.int q.2)
theorem valV_toV (k : Key) : ∀ L : List (Key × Int), valV (toV L) k = (valZ L k).map V.int
  | [] => rfl
  | q :: L => by
    have ih := valV_toV k L
    unfold valV valZ toV at ih ⊢
    rw [List.map_cons, List.find?_cons, List.find?_cons]
    by_cases h : q.1 = k
    · simp [h]
    · simpa [h] using ih
theorem putK_toV (k : Key) (v : Int) (L : List (Key × Int)) : putK (toV L) k (.int v) = toV (putZ L k v) := by
  have e : ((toV L).any fun q => decide (q.1 = k)) = (L.any fun q => decide (q.1 = k)) := by
    unfold toV; rw [List.any_map]; rfl
  unfold putK putZ
  rw [e]
  by_cases h : (L.any fun q => decide (q.1 = k)) = true
  · rw [if_pos h, if_pos h]
    unfold toV
    rw [List.map_map, List.map_map]
    refine List.map_congr_left fun q _ => ?_
    by_cases hq : q.1 = k <;> simp [hq]
  · rw [if_neg h, if_neg h]
    unfold toV
    rw [List.map_append]
    rfl
theorem putZ_len (L : List (Key × Int)) (k : Key) (v : Int) : (putZ L k v).length ≤ L.length + 1 := by
  unfold putZ
  split <;> simp
def stZ (L : List (Key × Int)) (o v : Int) : List (Key × Int) := if 0 ≤ o then putZ L (.inl o) ((valZ L (.inl o)).getD 0 + v) else L
theorem stZ_len (L : List (Key × Int)) (o v : Int) : (stZ L o v).length ≤ L.length + 1 := by
  unfold stZ
  split
  · exact putZ_len ..
  · omega
def halfL (x y : Nat) (D : List (Key × Int)) : List Int → Lo → List (Key × Int) → Lo × List (Key × Int)
  | [], l, L => (l, L)
  | k :: r, l, L => halfL x y D r (((l.set x (some (.int k))).set y (some (.int (k - 1)))).set y (some (.int (k + 1))))
      (stZ (stZ L (k - 1) ((valZ D (.inl k)).getD 0)) (k + 1) ((valZ D (.inl k)).getD 0))
def kvsZ : List (Key × W) → Option (List (Key × Int))
  | [] => some []
  | (k, .int i) :: r => (kvsZ r).map ((k, i) :: ·)
  | _ :: _ => none
def hKeys : List (Key × Int) → Option (List Int)
  | [] => some []
  | (.inl k, _) :: r => (hKeys r).map (k :: ·)
  | _ :: _ => none
theorem kvsZ_ok : ∀ {kv : List (Key × W)} {L : List (Key × Int)}, kvsZ kv = some L → kv = toW L
  | [], L, h => by cases h; rfl
  | (k, w) :: r, L, h => by
    unfold kvsZ at h
    cases w with
    | int i =>
      dsimp only at h
      cases q : kvsZ r with
      | none => rw [q] at h; cases h
      | some M =>
        rw [q] at h
        cases h
        rw [kvsZ_ok q]; rfl
    | _ => cases h
theorem hKeys_ok : ∀ {L : List (Key × Int)} {ks : List Int}, hKeys L = some ks → L.map (·.1) = ks.map Sum.inl
  | [], ks, h => by cases h; rfl
  | (k, i) :: r, ks, h => by
    unfold hKeys at h
    cases k with
    | inl k =>
      dsimp only at h
      cases q : hKeys r with
      | none => rw [q] at h; cases h
      | some M =>
        rw [q] at h
        cases h
        rw [List.map_cons, List.map_cons, hKeys_ok q]
    | inr _ => cases h
theorem valZ_mem {k : Key} : ∀ {L : List (Key × Int)}, k ∈ L.map (·.1) → ∃ v, valZ L k = some v
  | [], h => by cases h
  | q :: L, h => by
    unfold valZ
    rw [List.find?_cons]
    by_cases e : q.1 = k
    · exact ⟨q.2, by simp [e]⟩
    · rcases List.mem_cons.mp h with z | z
      · exact absurd z.symm e
      · obtain ⟨v, hv⟩ := valZ_mem z
        unfold valZ at hv
        exact ⟨v, by rw [decide_eq_false e]; exact hv⟩
def sHalf (p : Hh) (d f x y : Nat) : Lo → S → RS := fun l s => match l[d]?, l[f]? with
  | some (some (.ref n)), some (some (.ref m)) => (match rd p s n, rd p s m with
    | some (.dct kv), some (.dct kw) => (match kvsZ kv, kvsZ kw with
      | some D, some L => (match hKeys D with
        | some ks => if n ≠ m ∧ (d ≠ x ∧ d ≠ y) ∧ (f ≠ x ∧ f ≠ y) ∧ x ≠ y ∧ (x < l.length ∧ y < l.length) ∧ L.length + 2 * ks.length ≤ 1000 then .nx (halfL x y D ks l L).1 (wr p s m (.dct (toW (halfL x y D ks l L).2))) else .bad
        | none => .bad)
      | _, _ => .bad)
    | _, _ => .bad)
  | _, _ => .bad
section
variable {G : GE} {p : Hh} {E : WX} {X : Cx}
theorem toV_of {ρ : List Addr} {H : Hp} : ∀ {L : List (Key × Int)} {ks : List (Key × V)}, (toW L).map (·.1) = ks.map (·.1) → RVs G ρ H ((toW L).map (·.2)) (ks.map (·.2)) → ks = toV L
  | [], [], _, _ => rfl
  | [], _ :: _, h, _ => by cases h
  | _ :: _, [], h, _ => by cases h
  | q :: L, r :: ks, h, h2 => by
    have h' : q.1 = r.1 ∧ (toW L).map (·.1) = ks.map (·.1) := by
      have := List.cons.inj (show q.1 :: (toW L).map (·.1) = r.1 :: ks.map (·.1) from h)
      exact this
    have h2' : RVs G ρ H (W.int q.2 :: (toW L).map (·.2)) (r.2 :: ks.map (·.2)) := h2
    cases h2' with
    | cons a b =>
      have ih := toV_of h'.2 b
      obtain ⟨r1, r2⟩ := r
      cases a
      rw [ih]
      show (r1, V.int q.2) :: toV L = (q.1, V.int q.2) :: toV L
      rw [h'.1]
theorem ro_toW {ρ : List Addr} {H : Hp} (L : List (Key × Int)) : RO G ρ H (.dct (toW L)) (.dK (toV L)) := by
  refine .dK ?_ ?_
  · unfold toW toV; rw [List.map_map, List.map_map]; rfl
  · induction L with
    | nil => exact .nil
    | cons q L ih => exact .cons (.int _) ih
abbrev tVl (K : PySem.W.Frag) (x : Nat) : TE := tLst (tCons (tOp (rI0 fun i j => .int (i - j)) (tVar x) (tC (.int 1))) (tCons (tOp (rI0 fun i j => .int (i + j)) (tVar x) (tC (.int 1))) tNil))
abbrev tStore (d f x y : Nat) : TS := sDPut (tVar f) (tVar y) (tOp (rI0 fun i j => .int (i + j)) (tDGet2 (tVar f) (tVar y) (tC (.int 0))) (tDGet (tVar d) (tVar x)))
abbrev tBody (d f x y : Nat) : TS := tIfS (tTest (tOp (rI0 fun i j => .bl (decide (j ≤ i))) (tVar y) (tC (.int 0)))) (tStore d f x y) tNext
abbrev tHalf (K : PySem.W.Frag) (d f x y : Nat) : TS := tLock (tFor (iKeys (tVar d)) (gName x) (tFor (iList K (tVl K x)) (gName y) (tBody d f x y)))
/-- what stands while it is walked -/
structure HSt (G : GE) (ρ : List Addr) (H0 : Hp) (a b : Addr) (od : Obj) (D : List (Key × Int)) (d f n m : Nat) (l : Lo) (L : List (Key × Int)) (σ : L2.St) (H : Hp) : Prop where
  ha : H a = some (.frz od (.dK (toV D)))
  hb : H b = some (.dK (toV L))
  keep : ∀ c o, c ≠ a → c ≠ b → H0 c = some o → H c = some o
  rl : RL G ρ H l σ
  ld : l[d]? = some (some (.ref n))
  lf : l[f]? = some (some (.ref m))
variable {ρ : List Addr} {H0 H : Hp} {a b : Addr} {od : Obj} {D L : List (Key × Int)} {d f n m x y : Nat} {l : Lo} {σ : L2.St}
theorem HSt.set (h : HSt G ρ H0 a b od D d f n m l L σ H) (i : Nat) (k : Int) (hi : G.hold ≠ some i) (hd : d ≠ i) (hf : f ≠ i) : HSt G ρ H0 a b od D d f n m (l.set i (some (.int k))) L (σ.set i (some (.int k))) H :=
  ⟨h.ha, h.hb, h.keep, h.rl.set i (.int k) hi, by rw [List.getElem?_set_ne (fun z => hd z.symm)]; exact h.ld, by rw [List.getElem?_set_ne (fun z => hf z.symm)]; exact h.lf⟩
theorem HSt.fresh (h : HSt G ρ H0 a b od D d f n m l L σ H) {q : Addr} {u : HO} (hq : H q = none) : HSt G ρ H0 a b od D d f n m l L σ (upd H q u) := by
  have na : a ≠ q := fun z => by have := h.ha; rw [z, hq] at this; cases this
  have nb : b ≠ q := fun z => by have := h.hb; rw [z, hq] at this; cases this
  refine ⟨by rw [upd_ne na]; exact h.ha, by rw [upd_ne nb]; exact h.hb, fun c o x1 x2 e => ?_, h.rl.mono ⟨⟨[], by simp⟩, fun _ h n => absurd h n, fun c o nc e => ?_⟩, h.ld, h.lf⟩
  · have := h.keep c o x1 x2 e
    rw [upd_ne (fun z => by rw [z, hq] at this; cases this)]; exact this
  · rw [upd_ne (fun z => by rw [z, hq] at e; cases e)]; exact e
theorem HSt.put (h : HSt G ρ H0 a b od D d f n m l L σ H) (ab : a ≠ b) (mb : b ∈ ρ) (M : List (Key × Int)) : HSt G ρ H0 a b od D d f n m l M σ (upd H b (.dK (toV M))) := by
  refine ⟨by rw [upd_ne ab]; exact h.ha, upd_same, fun c o x1 x2 e => by rw [upd_ne x2]; exact h.keep c o x1 x2 e, h.rl.mono ⟨⟨[], by simp⟩, fun _ h n => absurd h n, fun c o nc e => ?_⟩, h.ld, h.lf⟩
  rw [upd_ne (fun z => nc (by rw [z]; exact mb))]; exact e
/-- one turn within -/
theorem body_way {E' : Ends} (h : HSt G ρ H0 a b od D d f n m l L σ H) (ab : a ≠ b) (ea : ρ[n]? = some a) (eb : ρ[m]? = some b) {k o v : Int} (lx : l[x]? = some (some (.int k))) (ly : l[y]? = some (some (.int o))) (vd : valZ D (.inl k) = some v) (hl : L.length < 1000)
    (hn : ∀ H', HSt G ρ H0 a b od D d f n m l (stZ L o v) σ H' → (∀ c u, c ≠ b → H c = some u → H' c = some u) → E'.nx σ H') : tBody d f x y E' σ H := by
  have sx : ∃ w, σ[x]? = some (some w) ∧ w = .int k := by
    obtain ⟨w, e, r⟩ := h.rl.has x _ lx
    cases r
    exact ⟨_, e, rfl⟩
  have sy : ∃ w, σ[y]? = some (some w) ∧ w = .int o := by
    obtain ⟨w, e, r⟩ := h.rl.has y _ ly
    cases r
    exact ⟨_, e, rfl⟩
  have sd : σ[d]? = some (some (.ref a)) := by
    obtain ⟨w, e, r⟩ := h.rl.has d _ h.ld
    cases r with
    | ref e2 => rw [ea] at e2; cases e2; exact e
  have sf : σ[f]? = some (some (.ref b)) := by
    obtain ⟨w, e, r⟩ := h.rl.has f _ h.lf
    cases r with
    | ref e2 => rw [eb] at e2; cases e2; exact e
  obtain ⟨_, sx, rfl⟩ := sx
  obtain ⟨_, sy, rfl⟩ := sy
  by_cases ho : 0 ≤ o
  · have hst : stZ L o v = putZ L (.inl o) ((valZ L (.inl o)).getD 0 + v) := by unfold stZ; rw [if_pos ho]
    refine ⟨.int o, sy, o, 0, rfl, rfl, true, congrArg V.bl (decide_eq_true ho), ?_⟩
    refine (if_pos rfl).mpr ?_
    have g1 : DGet H b (.int o) ((valZ L (.inl o)).map V.int) := by
      rw [← valV_toV]; exact DGet.k (k := .inl o) h.hb
    have g2 : DGet H a (.int k) (some (.int v)) := .inl ⟨toV D, .inl k, .inr ⟨od, h.ha⟩, rfl, by rw [valV_toV, vd]; rfl⟩
    refine ⟨.ref b, sf, b, rfl, .inl ⟨toV L, .inl h.hb⟩, .int o, sy, (valZ L (.inl o)).map V.int, g1, ?_⟩
    refine ⟨.ref a, sd, .int k, sx, a, .int v, rfl, g2, ?_⟩
    refine ⟨(valZ L (.inl o)).getD 0, v, by cases valZ L (.inl o) <;> rfl, rfl, ?_⟩
    refine ⟨.ref b, sf, .int o, sy, b, upd H b (.dK (toV (stZ L o v))), rfl, ?_, ?_⟩
    · rw [hst, ← putK_toV]
      exact DPut.k (k := .inl o) h.hb (by unfold toV; rw [List.length_map, sizeLine_eq]; omega)
    · exact hn _ (h.put ab (List.mem_of_getElem? eb) _) fun c u nc e => by rw [upd_ne nc]; exact e
  · have hst : stZ L o v = L := by unfold stZ; rw [if_neg ho]
    refine ⟨.int o, sy, o, 0, rfl, rfl, false, congrArg V.bl (decide_eq_false ho), ?_⟩
    refine (if_neg (by decide)).mpr ?_
    exact hn H (by rw [hst]; exact h) fun _ _ _ e => e
/-- the inner walk -/
theorem inner_way {K : PySem.W.Frag} {E' : Ends} (h : HSt G ρ H0 a b od D d f n m l L σ H) (ab : a ≠ b) (ea : ρ[n]? = some a) (eb : ρ[m]? = some b) {k v : Int} (lx : l[x]? = some (some (.int k))) (vd : valZ D (.inl k) = some v) (hl : L.length + 2 ≤ 1000)
    (dy : d ≠ y) (fy : f ≠ y) (xy : x ≠ y) (hy : G.hold ≠ some y) (yl : y < l.length)
    (hn : ∀ σ' H', HSt G ρ H0 a b od D d f n m ((l.set y (some (.int (k - 1)))).set y (some (.int (k + 1)))) (stZ (stZ L (k - 1) v) (k + 1) v) σ' H' → E'.nx σ' H') :
    tFor (iList K (tVl K x)) (gName y) (tBody d f x y) E' σ H := by
  have sx : σ[x]? = some (some (.int k)) := by
    obtain ⟨w, e, r⟩ := h.rl.has x _ lx
    cases r
    exact e
  refine ⟨.int k, sx, k, 1, rfl, rfl, .int k, sx, k, 1, rfl, rfl, show 2 ≤ sizeLine by decide, fun q hq => ⟨q, rfl, ⟨_, .inl (.inl upd_same)⟩, ?_⟩⟩
  have ql := (stZ_len L (k - 1) v)
  refine for_list (xs := [.int (k - 1), .int (k + 1)]) (fun i σ' H' => ∃ l' L', HSt G ρ H0 a b od D d f n m l' L' σ' H' ∧ H' q = some (.lst [.int (k - 1), .int (k + 1)]) ∧ l'[x]? = some (some (.int k)) ∧ y < l'.length ∧
    (i = 0 ∧ l' = l ∧ L' = L ∨ i = 1 ∧ l' = l.set y (some (.int (k - 1))) ∧ L' = stZ L (k - 1) v ∨ i = 2 ∧ l' = (l.set y (some (.int (k - 1)))).set y (some (.int (k + 1))) ∧ L' = stZ (stZ L (k - 1) v) (k + 1) v)) ?_ ?_ ?_ ?_
  · exact ⟨l, L, h.fresh hq, upd_same, lx, yl, .inl ⟨rfl, rfl, rfl⟩⟩
  · rintro i σ' H' _ ⟨l', L', _, e, _⟩
    exact .inl (.inl e)
  · rintro i w σ' H' hw ⟨l', L', st, e, lx', yl', c⟩
    have one : ∀ o : Int, L'.length < 1000 → (∀ H2, HSt G ρ H0 a b od D d f n m (l'.set y (some (.int o))) (stZ L' o v) (σ'.set y (some (.int o))) H2 → H2 q = some (.lst [.int (k - 1), .int (k + 1)]) → ∃ l2 L2, HSt G ρ H0 a b od D d f n m l2 L2 (σ'.set y (some (.int o))) H2 ∧ H2 q = some (.lst [.int (k - 1), .int (k + 1)]) ∧ l2[x]? = some (some (.int k)) ∧ y < l2.length ∧
      (i + 1 = 0 ∧ l2 = l ∧ L2 = L ∨ i + 1 = 1 ∧ l2 = l.set y (some (.int (k - 1))) ∧ L2 = stZ L (k - 1) v ∨ i + 1 = 2 ∧ l2 = (l.set y (some (.int (k - 1)))).set y (some (.int (k + 1))) ∧ L2 = stZ (stZ L (k - 1) v) (k + 1) v)) → w = .int o →
      gName y w σ' H' fun σ2 H2 => tBody d f x y { E' with nx := fun σ H => ∃ l' L', HSt G ρ H0 a b od D d f n m l' L' σ H ∧ H q = some (.lst [.int (k - 1), .int (k + 1)]) ∧ l'[x]? = some (some (.int k)) ∧ y < l'.length ∧
        (i + 1 = 0 ∧ l' = l ∧ L' = L ∨ i + 1 = 1 ∧ l' = l.set y (some (.int (k - 1))) ∧ L' = stZ L (k - 1) v ∨ i + 1 = 2 ∧ l' = (l.set y (some (.int (k - 1)))).set y (some (.int (k + 1))) ∧ L' = stZ (stZ L (k - 1) v) (k + 1) v), ct := fun σ H => ∃ l' L', HSt G ρ H0 a b od D d f n m l' L' σ H ∧ H q = some (.lst [.int (k - 1), .int (k + 1)]) ∧ l'[x]? = some (some (.int k)) ∧ y < l'.length ∧
        (i + 1 = 0 ∧ l' = l ∧ L' = L ∨ i + 1 = 1 ∧ l' = l.set y (some (.int (k - 1))) ∧ L' = stZ L (k - 1) v ∨ i + 1 = 2 ∧ l' = (l.set y (some (.int (k - 1)))).set y (some (.int (k + 1))) ∧ L' = stZ (stZ L (k - 1) v) (k + 1) v), bk := E'.nx } σ2 H2 := fun o hL hh ew => by
      subst ew
      have nb : q ≠ b := fun z => by have := st.hb; rw [← z, e] at this; cases this
      refine body_way (st.set y o hy dy fy) ab ea eb (k := k) (o := o) (v := v) (by rw [List.getElem?_set_ne (fun z => xy z.symm)]; exact lx') (List.getElem?_set_self yl') vd hL fun H2 st2 kp => ?_
      exact hh H2 st2 (kp q _ nb e)
    rcases c with ⟨rfl, rfl, rfl⟩ | ⟨rfl, rfl, rfl⟩ | ⟨rfl, rfl, rfl⟩
    · refine one (k - 1) (by omega) (fun H2 st2 e2 => ⟨_, _, st2, e2, by rw [List.getElem?_set_ne (fun z => xy z.symm)]; exact lx', by rw [List.length_set]; exact yl', .inr (.inl ⟨rfl, rfl, rfl⟩)⟩) (Option.some.inj hw).symm
    · refine one (k + 1) (by omega) (fun H2 st2 e2 => ⟨_, _, st2, e2, by rw [List.getElem?_set_ne (fun z => xy z.symm)]; exact lx', by rw [List.length_set]; exact yl', .inr (.inr ⟨rfl, rfl, rfl⟩)⟩) (Option.some.inj hw).symm
    · cases hw
  · rintro σ' H' ⟨l', L', st, e, lx', yl', c⟩
    rcases c with ⟨z, _⟩ | ⟨z, _⟩ | ⟨_, rfl, rfl⟩
    · cases z
    · cases z
    · exact hn _ _ st
theorem halfL_len (x y : Nat) (D : List (Key × Int)) : ∀ (ks : List Int) (l : Lo) (L : List (Key × Int)), (halfL x y D ks l L).2.length ≤ L.length + 2 * ks.length
  | [], _, L => Nat.le_refl _
  | k :: r, l, L => by
    have ih := halfL_len x y D r (((l.set x (some (.int k))).set y (some (.int (k - 1)))).set y (some (.int (k + 1)))) (stZ (stZ L (k - 1) ((valZ D (.inl k)).getD 0)) (k + 1) ((valZ D (.inl k)).getD 0))
    have a := stZ_len (stZ L (k - 1) ((valZ D (.inl k)).getD 0)) (k + 1) ((valZ D (.inl k)).getD 0)
    have b := stZ_len L (k - 1) ((valZ D (.inl k)).getD 0)
    unfold halfL
    rw [List.length_cons]
    omega
theorem half_way {K : PySem.W.Frag} {D0 : Ends} {σ : L2.St} {H : Hp} (hx : G.hold ≠ some x) (hy : G.hold ≠ some y) (hw : tS G p E (sHalf p d f x y) D0 σ H) : tHalf K d f x y D0 σ H := by
  obtain ⟨ρ, l, s, rl, rp, h⟩ := hw
  unfold sHalf at h
  split at h
  · rename_i n m e1 e2
    split at h
    · rename_i kv kw r1 r2
      split at h
      · rename_i D L z1 z2
        split at h
        · rename_i ks zk
          split at h
          · rename_i hc
            obtain ⟨nm, ⟨dx, dy⟩, ⟨fx, fy⟩, xy, ⟨xl, yl⟩, hl⟩ := hc
            have kv1 := kvsZ_ok z1
            have kw1 := kvsZ_ok z2
            subst kv1 kw1
            obtain ⟨va, sa, ra⟩ := rl.has d _ e1
            obtain ⟨vb, sb, rb⟩ := rl.has f _ e2
            cases ra with
            | @ref _ a ea =>
            cases rb with
            | @ref _ b eb =>
            obtain ⟨u1, hu1, ro1⟩ := rp.at r1 ea
            obtain ⟨u2, hu2, ro2⟩ := rp.at r2 eb
            have ab : a ≠ b := fun z => nm (nodup_get rp.nd ea (z ▸ eb))
            have ma : a ∈ ρ := List.mem_of_getElem? ea
            have mb : b ∈ ρ := List.mem_of_getElem? eb
            cases ro1 with
            | @dK _ ks1 q1 q2 =>
            cases ro2 with
            | @dK _ ks2 p1 p2 =>
            have t1 := toV_of q1 q2
            have t2 := toV_of p1 p2
            subst t1 t2
            have kk := hKeys_ok zk
            refine ⟨a, .dK (toV D), hu1, trivial, fun od => ?_⟩
            refine ⟨.ref a, sa, a, od, rfl, .inl ⟨toV D, upd_same, ?_⟩⟩
            have ex1 : ∀ {H1 : Hp}, (∀ c o, c ≠ a → c ≠ b → H c = some o → H1 c = some o) → Ex ρ H ρ H1 := fun k => ⟨⟨[], by simp⟩, fun _ h n => absurd h n, fun c o nc e => k c o (fun z => nc (z ▸ ma)) (fun z => nc (z ▸ mb)) e⟩
            have kp0 : ∀ c o, c ≠ a → c ≠ b → H c = some o → upd H a (.frz od (.dK (toV D))) c = some o := fun c o x1 _ e => by rw [upd_ne x1]; exact e
            refine ⟨fun i nn σ' H' => ∃ r l' L', ks.drop i = r ∧ nn = r.length ∧ HSt G ρ H a b od D d f n m l' L' σ' H' ∧ halfL x y D r l' L' = halfL x y D ks l L ∧ L'.length + 2 * r.length ≤ 1000 ∧ x < l'.length ∧ l'.length = l.length, ⟨_, ks, l, L, rfl, rfl, ⟨upd_same, by rw [upd_ne (fun z => ab z.symm)]; exact hu2, kp0, rl.mono (ex1 kp0), e1, e2⟩, rfl, hl, xl, rfl⟩, ?_⟩
            rintro i nn σ' H' ⟨r, l', L', hr, rfl, st, eh, hl', xl', ll'⟩
            cases r with
            | nil =>
              have le : ks.length ≤ i := List.drop_eq_nil_iff.mp hr
              have lD : (toV D).length = ks.length := by
                have := congrArg List.length kk
                simpa [toV] using this
              refine .inl ⟨⟨st.ha, by rw [lD]; exact le⟩, st.ha, ?_⟩
              have e' : halfL x y D ks l L = (l', L') := eh.symm
              rw [e'] at h
              have kp : ∀ c o, c ≠ a → c ≠ b → H c = some o → upd H' a (.dK (toV D)) c = some o := fun c o x1 x2 e => by rw [upd_ne x1]; exact st.keep c o x1 x2 e
              have ex2 := ex1 kp
              have nn' : n < nxt p s := by rw [← rp.len]; exact (List.getElem?_eq_some_iff.mp ea).1
              have mm' : m < nxt p s := by rw [← rp.len]; exact (List.getElem?_eq_some_iff.mp eb).1
              refine h ρ _ σ' ex2 ⟨by rw [nxt_wr]; exact rp.len, rp.nd, fun j o ho => ?_⟩ (st.rl.mono ⟨⟨[], by simp⟩, fun _ h n => absurd h n, fun c o nc e => by rw [upd_ne (fun z => nc (by rw [z]; exact ma))]; exact e⟩)
              rw [rd_wr mm'] at ho
              split at ho
              · rename_i ej
                cases ho
                refine ⟨b, _, by rw [ej]; exact eb, by rw [upd_ne (fun z => ab z.symm)]; exact st.hb, ro_toW L'⟩
              · rename_i nj
                obtain ⟨c, u, ec, hcu, ru⟩ := rp.has j o ho
                by_cases ejn : j = n
                · rw [ejn] at ec ho
                  rw [ea] at ec; cases ec
                  rw [r1] at ho; cases ho
                  exact ⟨a, _, by rw [ejn]; exact ea, upd_same, ro_toW D⟩
                · have ca : c ≠ a := fun z => ejn (nodup_get rp.nd ec (z ▸ ea))
                  have cb : c ≠ b := fun z => nj (nodup_get rp.nd ec (z ▸ eb))
                  exact ⟨c, u, ec, kp c u ca cb hcu, ru.mono ex2⟩
            | cons k r =>
              have hi : i < ks.length := by
                rcases Nat.lt_or_ge i ks.length with z | z
                · exact z
                · rw [List.drop_eq_nil_iff.mpr z] at hr; cases hr
              have hr' : ks.drop (i + 1) = r := by
                have := congrArg (List.drop 1) hr
                rw [List.drop_drop] at this
                simpa using this
              have hki : ks[i]? = some k := by
                have := congrArg (fun z => z[0]?) hr
                simpa [List.getElem?_drop] using this
              have hDi : (D.map (·.1))[i]? = some (.inl k) := by rw [kk, List.getElem?_map, hki]; rfl
              obtain ⟨v, hv⟩ := valZ_mem (List.mem_of_getElem? hDi)
              obtain ⟨⟨k0, i0⟩, hD0, hk0⟩ : ∃ q, D[i]? = some q ∧ q.1 = .inl k := by
                rw [List.getElem?_map] at hDi
                cases q : D[i]? with
                | none => rw [q] at hDi; cases hDi
                | some q' => rw [q] at hDi; exact ⟨q', rfl, Option.some.inj hDi⟩
              have hVi : (toV D)[i]? = some (.inl k, .int i0) := by
                unfold toV
                rw [List.getElem?_map, hD0]
                dsimp only at hk0
                rw [hk0]; rfl
              refine .inr ⟨⟨st.ha, (List.getElem?_eq_some_iff.mp hVi).1⟩, fun σ2 H2 => ∃ r l' L', ks.drop (i + 1) = r ∧ HSt G ρ H a b od D d f n m l' L' σ2 H2 ∧ halfL x y D r l' L' = halfL x y D ks l L ∧ L'.length + 2 * r.length ≤ 1000 ∧ x < l'.length ∧ l'.length = l.length, ?_, ?_⟩
              · rintro σ2 H2 ⟨r2, l2, L2, g1, g2, g3, g4, g5, g6⟩
                rw [hr'] at g1
                exact ⟨r2.length, by rw [← g1, List.length_cons]; omega, r2, l2, L2, by rw [hr']; exact g1, rfl, g2, g3, g4, g5, g6⟩
              · rintro w H2 ⟨eH, k1, v1, hk1, rfl⟩
                subst eH
                rw [hVi] at hk1
                cases hk1
                have st1 := st.set x k hx dx fx
                refine inner_way st1 ab ea eb (k := k) (v := v) (List.getElem?_set_self xl') hv (by rw [List.length_cons] at hl'; omega) dy fy xy hy ?_ ?_
                · rw [List.length_set]; omega
                · intro σ3 H3 st3
                  have b1 := stZ_len L' (k - 1) v
                  have b2 := stZ_len (stZ L' (k - 1) v) (k + 1) v
                  refine ⟨r, _, _, hr', st3, ?_, by rw [List.length_cons] at hl'; omega, by rw [List.length_set, List.length_set, List.length_set]; exact xl', by rw [List.length_set, List.length_set, List.length_set]; exact ll'⟩
                  rw [← eh]
                  show _ = halfL x y D r _ _
                  rw [hv]
                  rfl
          · exact h.elim
        · exact h.elim
      · exact h.elim
    · exact h.elim
  · exact h.elim
theorem ss_half (d f x y : Nat) {k : Nat} {dn fn xn yn : Str} {px pd p1 b1 p2 b2 lp py p3 cp p4 p5 sp p6 ap p7 callp p8 p9 sp2 bp asgp ifp forp pos c1 c2 c3 c4 : Pos} {j1 j2 j3 j4}
    (cn : Cn X E k) (m2 : M2 X (.Name fn p6) "get" ap (.Name yn p7) (.Constant (.int 0) j4 c4) callp)
    (nd : X.N[d]? = some dn := by rfl) (nf : X.N[f]? = some fn := by rfl) (nx : X.N[x]? = some xn := by rfl) (ny : X.N[y]? = some yn := by rfl)
    (vd : Vis X.env.scope dn := by first | exact Or.inl rfl | exact Or.inr (Or.inl rfl) | exact Or.inr (Or.inr rfl)) (vf : Vis X.env.scope fn := by first | exact Or.inl rfl | exact Or.inr (Or.inl rfl) | exact Or.inr (Or.inr rfl)) (vx : Vis X.env.scope xn := by first | exact Or.inl rfl | exact Or.inr (Or.inl rfl) | exact Or.inr (Or.inr rfl)) (vy : Vis X.env.scope yn := by first | exact Or.inl rfl | exact Or.inr (Or.inl rfl) | exact Or.inr (Or.inr rfl))
    (dd : (dn == ("__debug__" : Str)) = false := by decide) (df : (fn == ("__debug__" : Str)) = false := by decide) (dx : (xn == ("__debug__" : Str)) = false := by decide) (dy : (yn == ("__debug__" : Str)) = false := by decide)
    (cd : (dn == ("__classdict__" : Str)) = false := by decide) (cf : (fn == ("__classdict__" : Str)) = false := by decide) (cx : (xn == ("__classdict__" : Str)) = false := by decide) (cy : (yn == ("__classdict__" : Str)) = false := by decide)
    (lx : Loc X.env.scope xn := by first | exact .inl rfl | exact .inr rfl) (ly : Loc X.env.scope yn := by first | exact .inl rfl | exact .inr rfl)
    (fx : X.fn xn = true ∨ X.env.scope.names.lookup xn = some .local := by first | exact .inl rfl | exact .inr rfl | assumption) (fy : X.fn yn = true ∨ X.env.scope.names.lookup yn = some .local := by first | exact .inl rfl | exact .inr rfl | assumption)
    (hx : G.hold ≠ some x := by intro z; cases z) (hy : G.hold ≠ some y := by intro z; cases z)
    (hs : swapsWith (.BinOp (.Call (.Attribute (.Name fn p6) "get" ap) [.Name yn p7, .Constant (.int 0) j4 c4] [] callp) .Add (.Subscript (.Name dn p8) (.Name xn p9) sp2) bp) (some (.Subscript (.Name fn p4) (.Name yn p5) sp)) asgp.line X.env = pure false := by rfl) :
    SS G p E X (.For (.Name xn px) (.Name dn pd) [.For (.Name yn py) (.List [.BinOp (.Name xn p1) .Sub (.Constant (.int 1) j1 c1) b1, .BinOp (.Name xn p2) .Add (.Constant (.int 1) j2 c2) b2] lp)
      [.If (.Compare (.Name yn p3) [.GtE] [.Constant (.int 0) j3 c3] cp) [.Assign [.Subscript (.Name fn p4) (.Name yn p5) sp] (.BinOp (.Call (.Attribute (.Name fn p6) "get" ap) [.Name yn p7, .Constant (.int 0) j4 c4] [] callp) .Add (.Subscript (.Name dn p8) (.Name xn p9) sp2) bp) asgp] [] ifp] [] forp] [] pos) (sHalf p d f x y) :=
  PS_imp (ps_lock (ps_for cn.own cn.calm (pi_keys (pe_var nd vd dd cd)) (pg_name cn.nd nx lx fx) (pss_one (ps_for cn.own cn.calm (pi_list (pe_lst (pa_cons (pe_op op_sub (pe_var nx vx dx cx) pe_int) (pa_cons (pe_op op_add (pe_var nx vx dx cx) pe_int) pa_nil)))) (pg_name cn.nd ny ly fy)
    (pss_one (ps_if (pt_cmpR op_ge (pe_var ny vy dy cy) pe_int (nomark _)) (pss_one (ps_dput cn.u1 (pe_var nf vf df cf) (pe_var ny vy dy cy) (pe_op op_add (pe_dget2 cn.u1 (pe_var nf vf df cf) (pe_var ny vy dy cy) pe_int m2) (pe_dget cn.u1 (pe_var nd vd dd cd) (pe_var nx vx dx cx) (fun _ _ => rfl))) hs)) pss_nil)))))) fun D0 σ H h => half_way hx hy h
end
end CC
set_option Elab.async false
set_option linter.all false
set_option maxRecDepth 100000
set_option maxHeartbeats 4000000
namespace K46
open PySem PySem.Spec PyProof.Rows L2 CC
def top (i : Nat) : Stmt := PySem.Challenge.pw_cupcap_k46_diagrams_counted.main.body.getD i (.Pass ⟨0, 0, 0, 0⟩)
def fldG : Nat → List Str
  | 0 => []
  | 1 => ["value"]
  | 2 => ["value"]
  | _ => []
abbrev GG (gc : Nat → Addr) : GE := GE.of gc fldG
abbrev s__law_catalan : Stmt := top 17
abbrev s__law_half_count : Stmt := top 18
abbrev s__law_pool : Stmt := top 15
abbrev s_is_integer : Stmt := top 6
abbrev s_is_columns : Stmt := top 7
abbrev s_check_columns : Stmt := top 8
abbrev s_binomial : Stmt := top 10
abbrev s_count_pairings : Stmt := top 11
abbrev s_count_diagrams : Stmt := top 12
abbrev s_count_with_through : Stmt := top 13
abbrev s__law_result : Stmt := top 19
abbrev s__law_take : Stmt := top 16
abbrev s_law : Stmt := top 20
/-! ### mirrors -/
def b__law_catalan (p : Hh) : Lo → S → RS :=
    (sSeq (sAsg (gNm 1) (eLst p (aCons (eC (.int 1)) aNil)))
    (sSeq (sFor p (gNm 2) (iRange1 (eVar 0)) (sEx (eBm isLst fAppend p (eVar 1) (aCons (eB fSum p (aCons (eLc p (CTg.nm 3) (iRange1 (eBin gAdd p (eVar 2) (eC (.int 1)))) tTrue (eBin gMul p (eIx p (eVar 1) (eVar 3)) (eIx p (eVar 1) (eBin gSub p (eVar 2) (eVar 3))))) aNil)) aNil))))
    (sRet (eIx p (eVar 1) (eVar 0)))))
def m__law_catalan : Hh → List W → R W := fnI 1 4 b__law_catalan
def b__law_half_count (p : Hh) : Lo → S → RS :=
    (sSeq (sAsg (gNm 2) (eDis1 p (eC (.int 0)) (eC (.int 1))))
    (sSeq (sFor p (gNm 3) (iRange1 (eVar 0)) (sSeq (sAsg (gNm 4) (eDct p))
    (sSeq (sHalf p 2 4 5 6)
    (sAsg (gNm 2) (eVar 4)))))
    (sRet (eGet2 p (eVar 2) (eVar 1) (eC (.int 0))))))
def m__law_half_count : Hh → List W → R W := fnI 2 7 b__law_half_count
def b__law_pool (p : Hh) : Lo → S → RS :=
    (sSeq (sAsg (gNm 2) (eC (.int 0)))
    (sSeq (sIf (tVal (eBin gLt p (eVar 1) (eB fLen p (aCons (eVar 0) aNil)))) (sAsg (gNm 2) (eB fAbs p (aCons (eIx p (eVar 0) (eVar 1)) aNil))) sNx)
    (sSeq (sAsg (gNm 3) (eBin gMod p (eBin gMul p (eBin gAdd p (eBin gAdd p (eBin gAdd p (eBin gMod p (eVar 2) (eC (.int 2147483629))) (eBin gMul p (eBin gMul p (eC (.int 7919)) (eVar 1)) (eVar 1))) (eBin gMul p (eC (.int 31)) (eVar 1))) (eC (.int 17))) (eC (.int 48271))) (eC (.int 2147483647))))
    (sRet (eLst p (aCons (eBin gMul p (eVar 2) (eB fInt p (aCons (eBin gGe p (eVar 2) (eBin gPow p (eC (.int 10)) (eC (.int 18)))) aNil))) (aCons (eBin gMod p (eBin gMul p (eVar 3) (eVar 3)) (eC (.int 2147483629))) aNil)))))))
def m__law_pool : Hh → List W → R W := fnI 2 4 b__law_pool
def b_is_integer (p : Hh) : Lo → S → RS :=
    (sRet (eAndV (eIsi p (qInt []) (eVar 0)) (eAndV (eNotV (eIsi p (qBool []) (eVar 0))) (eBin gGe p (eVar 0) (eVar 1)))))
def m_is_integer : Hh → List W → R W := fnI 2 2 b_is_integer
def b_is_columns (p : Hh) : Lo → S → RS :=
    (sRet (eAndV (eCall m_is_integer p [] (aCons (eVar 0) (aCons (eC (.int 1)) aNil))) (eBin gLe p (eVar 0) (eC (.int 16)))))
def m_is_columns : Hh → List W → R W := fnI 1 1 b_is_columns
def b_check_columns (p : Hh) : Lo → S → RS :=
    (sIf (tNotT (tVal (eCall m_is_columns p [] (aCons (eVar 0) aNil)))) (sRaise 1 (eVar 0)) sNx)
def m_check_columns : Hh → List W → R W := fnI 1 1 b_check_columns
def b_binomial (p : Hh) : Lo → S → RS :=
    (sSeq (sIf (tVal (eBin gLt p (eVar 1) (eC (.int 0)))) (sRet (eC (.int 0))) sNx)
    (sSeq (sAsg (gNm 2) (eC (.int 1)))
    (sSeq (sFor p (gNm 3) (iRange1 (eVar 1)) (sAsg (gNm 2) (eBin gFdiv p (eBin gMul p (eVar 2) (eBin gSub p (eVar 0) (eVar 3))) (eBin gAdd p (eVar 3) (eC (.int 1))))))
    (sRet (eVar 2)))))
def m_binomial : Hh → List W → R W := fnI 2 4 b_binomial
def b_count_pairings (p : Hh) : Lo → S → RS :=
    (sSeq (sAsg (gNm 1) (eBin gFdiv p (eVar 0) (eC (.int 2))))
    (sRet (eBin gFdiv p (eCall m_binomial p [] (aCons (eVar 0) (aCons (eVar 1) aNil))) (eBin gAdd p (eVar 1) (eC (.int 1))))))
def m_count_pairings : Hh → List W → R W := fnI 1 2 b_count_pairings
def b_count_diagrams (p : Hh) : Lo → S → RS :=
    (sSeq (sEx (eCall m_check_columns p [] (aCons (eVar 0) aNil)))
    (sRet (eCall m_count_pairings p [] (aCons (eBin gMul p (eC (.int 2)) (eVar 0)) aNil))))
def m_count_diagrams : Hh → List W → R W := fnI 1 1 b_count_diagrams
def b_count_with_through (p : Hh) : Lo → S → RS :=
    (sSeq (sEx (eCall m_check_columns p [] (aCons (eVar 0) aNil)))
    (sSeq (sIf (tNotT (tVal (eCall m_is_integer p [.int 0] (aCons (eVar 1) aNil)))) (sRaise 2 (eVar 1)) sNx)
    (sSeq (sIf (tOrT (tVal (eBin gGt p (eVar 1) (eVar 0))) (tVal (eBin gEq p (eBin gMod p (eBin gSub p (eVar 0) (eVar 1)) (eC (.int 2))) (eC (.int 1))))) (sRet (eC (.int 0))) sNx)
    (sSeq (sAsg (gNm 2) (eBin gFdiv p (eBin gSub p (eVar 0) (eVar 1)) (eC (.int 2))))
    (sRet (eBin gPow p (eBin gSub p (eCall m_binomial p [] (aCons (eVar 0) (aCons (eVar 2) aNil))) (eCall m_binomial p [] (aCons (eVar 0) (aCons (eBin gSub p (eVar 2) (eC (.int 1))) aNil)))) (eC (.int 2))))))))
def m_count_with_through : Hh → List W → R W := fnI 2 3 b_count_with_through
def b__law_result (p : Hh) : Lo → S → RS :=
    (sTry (sRet (eIf (tVal (eBin gEq p (eVar 0) (eC (.int 0)))) (eCall m_count_diagrams p [] (aCons (eVar 1) aNil)) (eCall m_count_with_through p [] (aCons (eVar 1) (aCons (eVar 2) aNil))))) [⟨1, [2], some 3, fun w => (sRet (eTup (aCons (eC (.str "columns")) (aCons (eB fRepr p (aCons (eC w) aNil)) (aCons (eAndV (eC (.bl true)) (eNotV (eC (.bl false)))) aNil)))))⟩, ⟨2, [1], some 3, fun w => (sRet (eTup (aCons (eC (.str "number")) (aCons (eB fRepr p (aCons (eC w) aNil)) (aCons (eAndV (eC (.bl true)) (eNotV (eC (.bl false)))) aNil)))))⟩])
def m__law_result : Hh → List W → R W := fnI 3 4 b__law_result
def b__law_take (p : Hh) : Lo → S → RS :=
    (sSeq (sIf (tVal (eBin gGt p (eIx p (eVar 0) (eC (.int 0))) (eC (.int 0)))) (sSeq (sAsg (gNm 2) (eBin gMod p (eIx p (eVar 0) (eC (.int 0))) (eVar 1)))
    (sSeq (sAsg (gSubT gSetX p (eVar 0) (eC (.int 0))) (eBin gFdiv p (eIx p (eVar 0) (eC (.int 0))) (eVar 1)))
    (sRet (eVar 2)))) sNx)
    (sSeq (sAsg (gSubT gSetX p (eVar 0) (eC (.int 1))) (eBin gMod p (eBin gAdd p (eBin gMul p (eIx p (eVar 0) (eC (.int 1))) (eC (.int 48271))) (eC (.int 12345))) (eC (.int 2147483647))))
    (sRet (eBin gMod p (eBin gFdiv p (eBin gMod p (eBin gMul p (eIx p (eVar 0) (eC (.int 1))) (eIx p (eVar 0) (eC (.int 1)))) (eC (.int 2147483629))) (eC (.int 64))) (eVar 1)))))
def m__law_take : Hh → List W → R W := fnI 2 3 b__law_take
def b_law (p : Hh) : Lo → S → RS :=
    (sSeq (sFor p (gNm 1) (iRange1 (eB fMax2 p (aCons (eC (.int 1)) (aCons (eB fMin2 p (aCons (eC (.int 8)) (aCons (eB fLen p (aCons (eVar 0) aNil)) aNil))) aNil)))) (sSeq (sAsg (gNm 2) (eCall m__law_pool p [] (aCons (eVar 0) (aCons (eVar 1) aNil))))
    (sSeq (sAsg (gNm 3) (eBin gAdd p (eC (.int 1)) (eCall m__law_take p [] (aCons (eVar 2) (aCons (eC (.int 16)) aNil)))))
    (sSeq (sAsg (gNm 4) (eLc p (CTg.nm 8) (iRange1 (eBin gAdd p (eVar 3) (eC (.int 3)))) tTrue (eCall m__law_result p [] (aCons (eC (.int 1)) (aCons (eVar 3) (aCons (eVar 8) aNil))))))
    (sSeq (sAsg (gNm 5) (eLc p (CTg.nm 8) (iRange1 (eBin gAdd p (eVar 3) (eC (.int 3)))) tTrue (eCall m__law_half_count p [] (aCons (eVar 3) (aCons (eVar 8) aNil)))))
    (sSeq (sIf (tVal (eBin gNe p (eB fRepr p (aCons (eVar 4) aNil)) (eB fRepr p (aCons (eLc p (CTg.nm 9) (iSeq (eVar 5) p) tTrue (eBin gMul p (eVar 9) (eVar 9))) aNil)))) (sRet (eC (.bl false))) sNx)
    (sSeq (sIf (tOrT (tVal (eBin gNe p (eB fRepr p (aCons (eCall m__law_result p [] (aCons (eC (.int 0)) (aCons (eVar 3) (aCons (eC .non) aNil)))) aNil)) (eB fRepr p (aCons (eCall m__law_catalan p [] (aCons (eVar 3) aNil)) aNil)))) (tVal (eBin gNe p (eB fSum p (aCons (eVar 4) aNil)) (eCall m__law_catalan p [] (aCons (eVar 3) aNil))))) (sRet (eC (.bl false))) sNx)
    (sSeq (sIf (tVal (eBin gNe p (eCall m__law_result p [] (aCons (eC (.int 1)) (aCons (eVar 3) (aCons (eBin gAdd p (eBin gPow p (eC (.int 10)) (eC (.int 20))) (eCall m__law_take p [] (aCons (eVar 2) (aCons (eC (.int 9)) aNil)))) aNil)))) (eC (.int 0)))) (sRet (eC (.bl false))) sNx)
    (sSeq (sAsg (gNm 6) (eIx p (eLst p (aCons (eC .non) (aCons (eC (.int 0)) (aCons (eC (.int 17)) (aCons (eC (.bl true)) (aCons (eC (.str "3")) (aCons (eTup (aCons (eC (.int 3)) aNil)) (aCons (eUn gNeg p (eC (.int 1))) (aCons (eBin gPow p (eC (.int 10)) (eC (.int 20))) aNil))))))))) (eCall m__law_take p [] (aCons (eVar 2) (aCons (eC (.int 8)) aNil)))))
    (sSeq (sFor p (gNm 7) (iSeq (eLst p (aCons (eC (.int 0)) (aCons (eC (.int 1)) aNil))) p) (sIf (tVal (eBin gNe p (eCall m__law_result p [] (aCons (eVar 7) (aCons (eVar 6) (aCons (eC .non) aNil)))) (eTup (aCons (eC (.str "columns")) (aCons (eB fRepr p (aCons (eVar 6) aNil)) (aCons (eC (.bl true)) aNil)))))) (sRet (eC (.bl false))) sNx))
    (sSeq (sAsg (gNm 6) (eIx p (eLst p (aCons (eC .non) (aCons (eUn gNeg p (eC (.int 1))) (aCons (eC (.bl true)) (aCons (eC (.bl false)) (aCons (eC (.str "0")) (aCons (eTup (aCons (eC (.int 0)) aNil)) (aCons (eLst p (aCons (eC (.int 2)) aNil)) aNil)))))))) (eCall m__law_take p [] (aCons (eVar 2) (aCons (eC (.int 7)) aNil)))))
    (sIf (tVal (eBin gNe p (eCall m__law_result p [] (aCons (eC (.int 1)) (aCons (eVar 3) (aCons (eVar 6) aNil)))) (eTup (aCons (eC (.str "number")) (aCons (eB fRepr p (aCons (eVar 6) aNil)) (aCons (eC (.bl true)) aNil)))))) (sRet (eC (.bl false))) sNx))))))))))))
    (sRet (eC (.bl true))))
def m_law : Hh → List W → R W := fnI 1 10 b_law
/-! ### facts of the text -/
structure TT (mg : Str → Option Value) (T_MAX_COLUMNS : Tok) : Prop where
  n_abs : mg "abs" = none
  n_bool : mg "bool" = none
  n_int : mg "int" = none
  n_isinstance : mg "isinstance" = none
  n_len : mg "len" = none
  n_max : mg "max" = none
  n_min : mg "min" = none
  n_range : mg "range" = none
  n_repr : mg "repr" = none
  n_sum : mg "sum" = none
  c_MAX_COLUMNS : mg "MAX_COLUMNS" = some (.int 16 T_MAX_COLUMNS)
structure MM (mg : Str → Option Value) (f__law_catalan : Addr) (f__law_half_count : Addr) (f__law_pool : Addr) (f_is_integer : Addr) (f_is_columns : Addr) (f_check_columns : Addr) (f_binomial : Addr) (f_count_pairings : Addr) (f_count_diagrams : Addr) (f_count_with_through : Addr) (f__law_result : Addr) (f__law_take : Addr) (f_law : Addr) : Prop where
  m__law_catalan : mg "_law_catalan" = some (.ref f__law_catalan)
  m__law_half_count : mg "_law_half_count" = some (.ref f__law_half_count)
  m__law_pool : mg "_law_pool" = some (.ref f__law_pool)
  m_is_integer : mg "is_integer" = some (.ref f_is_integer)
  m_is_columns : mg "is_columns" = some (.ref f_is_columns)
  m_check_columns : mg "check_columns" = some (.ref f_check_columns)
  m_binomial : mg "binomial" = some (.ref f_binomial)
  m_count_pairings : mg "count_pairings" = some (.ref f_count_pairings)
  m_count_diagrams : mg "count_diagrams" = some (.ref f_count_diagrams)
  m_count_with_through : mg "count_with_through" = some (.ref f_count_with_through)
  m__law_result : mg "_law_result" = some (.ref f__law_result)
  m__law_take : mg "_law_take" = some (.ref f__law_take)
  m_law : mg "law" = some (.ref f_law)
structure CF (mg : Str → Option Value) (K : PySem.W.Frag) (gc : Nat → Addr) (f__law_catalan : Addr) (f__law_half_count : Addr) (f__law_pool : Addr) (f_is_integer : Addr) (f_is_columns : Addr) (f_check_columns : Addr) (f_binomial : Addr) (f_count_pairings : Addr) (f_count_diagrams : Addr) (f_count_with_through : Addr) (f__law_result : Addr) (f__law_take : Addr) (f_law : Addr) : Prop where
  xe_2 : ExcC K (gc 2)
  kt_2_1 : PySem.W.kitOne K (.ref (gc 2)) (.ref (gc 1)) = some false
  nm_InvalidColumns : mg "InvalidColumns" = some (.ref (gc 1))
  kt_2_0 : PySem.W.kitOne K (.ref (gc 2)) (.ref (gc 0)) = some true
  nm_DiagramError : mg "DiagramError" = some (.ref (gc 0))
  xi_2 : XfC K (gc 2)
  xn_2 : PySem.W.findIn K (.ref (gc 2)) "value" = some none
  ex_2_2 : PySem.W.exmOne K (.ref (gc 2)) (.ref (gc 2)) = some true
  ex_1_2 : PySem.W.exmOne K (.ref (gc 1)) (.ref (gc 2)) = some false
  nm_InvalidNumber : mg "InvalidNumber" = some (.ref (gc 2))
  xe_1 : ExcC K (gc 1)
  kt_1_2 : PySem.W.kitOne K (.ref (gc 1)) (.ref (gc 2)) = some false
  kt_1_0 : PySem.W.kitOne K (.ref (gc 1)) (.ref (gc 0)) = some true
  xi_1 : XfC K (gc 1)
  xn_1 : PySem.W.findIn K (.ref (gc 1)) "value" = some none
  ex_1_1 : PySem.W.exmOne K (.ref (gc 1)) (.ref (gc 1)) = some true
  ex_2_1 : PySem.W.exmOne K (.ref (gc 2)) (.ref (gc 1)) = some false
section
variable {P : Program} {w : World} {K : PySem.W.Frag} {mg : Str → Option Value} {base : Heap} {gc : Nat → Addr} {T_MAX_COLUMNS : Tok} {f__law_catalan : Addr} {f__law_half_count : Addr} {f__law_pool : Addr} {f_is_integer : Addr} {f_is_columns : Addr} {f_check_columns : Addr} {f_binomial : Addr} {f_count_pairings : Addr} {f_count_diagrams : Addr} {f_count_with_through : Addr} {f__law_result : Addr} {f__law_take : Addr} {f_law : Addr}
/-! ### exceptions -/
theorem sx_InvalidColumns : FnScope ["self", "value"] ["self", "value"] (defScope (inClass (top 2) 0)) := ⟨rfl, rfl, rfl, by decide +kernel, rfl, by decide +kernel, by decide +kernel⟩
theorem x_InvalidColumns {fI C CB : Addr} {fd : FuncData} {mc : Value} (F : Fun K "__init__" "InvalidColumns.__init__" (inClass (top 2) 0) fI fd) (T : OexC K C) (hno : PySem.W.findIn K (.ref C) "value" = some none) (hB : mg "DiagramError" = some (.ref CB)) (r : ClX.CRead K CB mc) (k : PySem.W.findCls K (.ref CB) mc "__init__" = some (.val (.builtin "ValueError.__init__"))) : FnG P w K mg base 1 fI fd ["self", "value"] (spX K C "value") :=
  xinit_ok F sx_InvalidColumns T hno fun cdv A outer s H E k0 cn => ⟨_, _, pss_cons (ps_expr (pe_binit (by rfl) hB r k (pa_cons (pe_var (i := 0) rfl (.inl rfl)) (pa_cons pe_str pa_nil))) rfl) (pss_one (ps_ost (pe_var (i := 0) rfl (.inl rfl)) (pe_var (i := 1) rfl (.inl rfl)))), rfl, _, rfl⟩
theorem sx_InvalidNumber : FnScope ["self", "value"] ["self", "value"] (defScope (inClass (top 3) 0)) := ⟨rfl, rfl, rfl, by decide +kernel, rfl, by decide +kernel, by decide +kernel⟩
theorem x_InvalidNumber {fI C CB : Addr} {fd : FuncData} {mc : Value} (F : Fun K "__init__" "InvalidNumber.__init__" (inClass (top 3) 0) fI fd) (T : OexC K C) (hno : PySem.W.findIn K (.ref C) "value" = some none) (hB : mg "DiagramError" = some (.ref CB)) (r : ClX.CRead K CB mc) (k : PySem.W.findCls K (.ref CB) mc "__init__" = some (.val (.builtin "ValueError.__init__"))) : FnG P w K mg base 1 fI fd ["self", "value"] (spX K C "value") :=
  xinit_ok F sx_InvalidNumber T hno fun cdv A outer s H E k0 cn => ⟨_, _, pss_cons (ps_expr (pe_binit (by rfl) hB r k (pa_cons (pe_var (i := 0) rfl (.inl rfl)) (pa_cons pe_str pa_nil))) rfl) (pss_one (ps_ost (pe_var (i := 0) rfl (.inl rfl)) (pe_var (i := 1) rfl (.inl rfl)))), rfl, _, rfl⟩
/-! ### derivations -/
theorem sc__law_catalan : FnScope ["_law_count", "_law_result_here", "_law_total", "_law_k"] ["_law_count"] (defScope s__law_catalan) := ⟨rfl, rfl, rfl, by decide +kernel, rfl, by decide +kernel, by decide +kernel⟩
theorem d__law_catalan {fd : FuncData} (T : TT mg T_MAX_COLUMNS) (M : MM mg f__law_catalan f__law_half_count f__law_pool f_is_integer f_is_columns f_check_columns f_binomial f_count_pairings f_count_diagrams f_count_with_through f__law_result f__law_take f_law) (Z : CF mg K gc f__law_catalan f__law_half_count f__law_pool f_is_integer f_is_columns f_check_columns f_binomial f_count_pairings f_count_diagrams f_count_with_through f__law_result f__law_take f_law) (F : Fun K "_law_catalan" "_law_catalan" s__law_catalan f__law_catalan fd) : FnG P w K mg base 1 f__law_catalan fd ["_law_count"] (spI (GG gc) m__law_catalan) :=
  fn_ok (fun _ _ _ => True.intro) F sc__law_catalan fun cdv A outer s H E p cn => show SB (GG gc) p _ _ _ (b__law_catalan p) from
    (sb_cons (ss_set 1 (se_lst (sa_cons se_int sa_nil)) cn.nd)
    (sb_cons (ss_for cn (si_range1 T.n_range (se_var 0)) (sg_nm 2 cn.nd) (sb_one (ss_ex (se_bm PySem.F.plainAttrs_list PySem.F.slot_list_append PySem.F.type_list_append ty_lst m_append (se_var 1) (sa_cons (se_b (c_sum cn.calm) T.n_sum (sa_cons (se_lc (own := [("_law_k", 3)]) (ct := (CTg.nm 3)) cn (si_range1 T.n_range (se_bin i_add (se_var 2) se_int)) (blk_ok (by rfl)) rfl (by decide) (fun _ _ _ _ _ => ctg_1 cn.calm cn.nd) (fun _ _ _ _ _ cn => sts_nil) (fun _ _ _ _ _ cn => (se_bin i_mul (se_ix cn.u1 (se_var 1) (se_var 3)) (se_ix cn.u1 (se_var 1) (se_bin i_sub (se_var 2) (se_var 3)))))) sa_nil)) sa_nil)))))
    (sb_one (ss_ret (se_ix cn.u1 (se_var 1) (se_var 0))))))
theorem sc__law_half_count : FnScope ["_law_width", "_law_count", "_law_levels", "_law_column", "_law_following", "_law_level", "_law_other"] ["_law_width", "_law_count"] (defScope s__law_half_count) := ⟨rfl, rfl, rfl, by decide +kernel, rfl, by decide +kernel, by decide +kernel⟩
theorem d__law_half_count {fd : FuncData} (T : TT mg T_MAX_COLUMNS) (M : MM mg f__law_catalan f__law_half_count f__law_pool f_is_integer f_is_columns f_check_columns f_binomial f_count_pairings f_count_diagrams f_count_with_through f__law_result f__law_take f_law) (Z : CF mg K gc f__law_catalan f__law_half_count f__law_pool f_is_integer f_is_columns f_check_columns f_binomial f_count_pairings f_count_diagrams f_count_with_through f__law_result f__law_take f_law) (F : Fun K "_law_half_count" "_law_half_count" s__law_half_count f__law_half_count fd) : FnG P w K mg base 1 f__law_half_count fd ["_law_width", "_law_count"] (spI (GG gc) m__law_half_count) :=
  fn_ok (fun _ _ _ => True.intro) F sc__law_half_count fun cdv A outer s H E p cn => show SB (GG gc) p _ _ _ (b__law_half_count p) from
    (sb_cons (ss_set 2 (se_dis1 se_int se_int) cn.nd)
    (sb_cons (ss_for cn (si_range1 T.n_range (se_var 0)) (sg_nm 3 cn.nd) (sb_cons (ss_set 4 se_dct cn.nd)
    (sb_cons (ss_half 2 4 5 6 cn ⟨rfl, rfl, rfl, rfl⟩)
    (sb_one (ss_set 2 (se_var 4) cn.nd)))))
    (sb_one (ss_ret (se_get2 cn.u1 (se_var 2) (se_var 1) se_int ⟨rfl, rfl, rfl, rfl⟩)))))
theorem sc__law_pool : FnScope ["_law_script", "_law_k", "_law_cell", "_law_mixed"] ["_law_script", "_law_k"] (defScope s__law_pool) := ⟨rfl, rfl, rfl, by decide +kernel, rfl, by decide +kernel, by decide +kernel⟩
theorem d__law_pool {fd : FuncData} (T : TT mg T_MAX_COLUMNS) (M : MM mg f__law_catalan f__law_half_count f__law_pool f_is_integer f_is_columns f_check_columns f_binomial f_count_pairings f_count_diagrams f_count_with_through f__law_result f__law_take f_law) (Z : CF mg K gc f__law_catalan f__law_half_count f__law_pool f_is_integer f_is_columns f_check_columns f_binomial f_count_pairings f_count_diagrams f_count_with_through f__law_result f__law_take f_law) (F : Fun K "_law_pool" "_law_pool" s__law_pool f__law_pool fd) : FnG P w K mg base 1 f__law_pool fd ["_law_script", "_law_k"] (spI (GG gc) m__law_pool) :=
  fn_ok (fun _ _ _ => True.intro) F sc__law_pool fun cdv A outer s H E p cn => show SB (GG gc) p _ _ _ (b__law_pool p) from
    (sb_cons (ss_set 2 se_int cn.nd)
    (sb_cons (ss_if (st_cmp (i_lt cn.u0) (se_var 1) (se_b c_len T.n_len (sa_cons (se_var 0) sa_nil))) (sb_one (ss_set 2 (se_b c_abs T.n_abs (sa_cons (se_ix cn.u1 (se_var 0) (se_var 1)) sa_nil)) cn.nd)) sb_nil)
    (sb_cons (ss_set 3 (se_bin i_mod (se_bin i_mul (se_bin i_add (se_bin i_add (se_bin i_add (se_bin i_mod (se_var 2) se_int) (se_bin i_mul (se_bin i_mul se_int (se_var 1)) (se_var 1))) (se_bin i_mul se_int (se_var 1))) se_int) se_int) se_int) cn.nd)
    (sb_one (ss_ret (se_lst (sa_cons (se_bin i_mul (se_var 2) (se_bt c_int T.n_int (sa_cons (se_cmp i_ge (se_var 2) (se_bin i_pow se_int se_int)) sa_nil))) (sa_cons (se_bin i_mod (se_bin i_mul (se_var 3) (se_var 3)) se_int) sa_nil))))))))
theorem sc_is_integer : FnScope ["value", "minimum"] ["value", "minimum"] (defScope s_is_integer) := ⟨rfl, rfl, rfl, by decide +kernel, rfl, by decide +kernel, by decide +kernel⟩
theorem d_is_integer {fd : FuncData} (T : TT mg T_MAX_COLUMNS) (M : MM mg f__law_catalan f__law_half_count f__law_pool f_is_integer f_is_columns f_check_columns f_binomial f_count_pairings f_count_diagrams f_count_with_through f__law_result f__law_take f_law) (Z : CF mg K gc f__law_catalan f__law_half_count f__law_pool f_is_integer f_is_columns f_check_columns f_binomial f_count_pairings f_count_diagrams f_count_with_through f__law_result f__law_take f_law) (F : FunD K "is_integer" "is_integer" (defArgs s_is_integer) (defBody s_is_integer) (defScope s_is_integer) [.int 0] [] f_is_integer fd) : FnG P w K mg base 1 f_is_integer fd ["value", "minimum"] (spI (GG gc) m_is_integer) :=
  fn_okD (fun _ _ _ => True.intro) F sc_is_integer fun cdv A outer s H E p cn => show SB (GG gc) p _ _ _ (b_is_integer p) from
    (sb_one (ss_ret (se_and (se_isiT q_int T.n_isinstance T.n_int (se_var 0)) (se_and (se_not (se_isiT q_bool T.n_isinstance T.n_bool (se_var 0))) (se_one (se_cmp i_ge (se_var 0) (se_var 1)))))))
theorem sc_is_columns : FnScope ["value"] ["value"] (defScope s_is_columns) := ⟨rfl, rfl, rfl, by decide +kernel, rfl, by decide +kernel, by decide +kernel⟩
theorem d_is_columns {fd : FuncData} (T : TT mg T_MAX_COLUMNS) (M : MM mg f__law_catalan f__law_half_count f__law_pool f_is_integer f_is_columns f_check_columns f_binomial f_count_pairings f_count_diagrams f_count_with_through f__law_result f__law_take f_law) (Z : CF mg K gc f__law_catalan f__law_half_count f__law_pool f_is_integer f_is_columns f_check_columns f_binomial f_count_pairings f_count_diagrams f_count_with_through f__law_result f__law_take f_law) (F : Fun K "is_columns" "is_columns" s_is_columns f_is_columns fd) (c_is_integer_0 : FC (GG gc) P w K mg base 1 f_is_integer m_is_integer []) : FnG P w K mg base 2 f_is_columns fd ["value"] (spI (GG gc) m_is_columns) :=
  fn_ok (fun _ _ _ => True.intro) F sc_is_columns fun cdv A outer s H E p cn => show SB (GG gc) p _ _ _ (b_is_columns p) from
    (sb_one (ss_ret (se_and (se_call c_is_integer_0 cn M.m_is_integer (sa_cons (se_var 0) (sa_cons se_int sa_nil))) (se_one (se_cmp i_le (se_var 0) (se_gint T.c_MAX_COLUMNS))))))
theorem sc_check_columns : FnScope ["columns"] ["columns"] (defScope s_check_columns) := ⟨rfl, rfl, rfl, by decide +kernel, rfl, by decide +kernel, by decide +kernel⟩
theorem d_check_columns {fd : FuncData} (T : TT mg T_MAX_COLUMNS) (M : MM mg f__law_catalan f__law_half_count f__law_pool f_is_integer f_is_columns f_check_columns f_binomial f_count_pairings f_count_diagrams f_count_with_through f__law_result f__law_take f_law) (Z : CF mg K gc f__law_catalan f__law_half_count f__law_pool f_is_integer f_is_columns f_check_columns f_binomial f_count_pairings f_count_diagrams f_count_with_through f__law_result f__law_take f_law) (F : Fun K "check_columns" "check_columns" s_check_columns f_check_columns fd) (c_is_columns : FC (GG gc) P w K mg base 2 f_is_columns m_is_columns []) (x_InvalidColumns : XC (GG gc) P w K mg base 1 "InvalidColumns" "value") : FnG P w K mg base 3 f_check_columns fd ["columns"] (spI (GG gc) m_check_columns) :=
  fn_ok (fun _ _ _ => True.intro) F sc_check_columns fun cdv A outer s H E p cn => show SB (GG gc) p _ _ _ (b_check_columns p) from
    (sb_one (ss_if (st_not (st_val (se_call c_is_columns cn M.m_is_columns (sa_cons (se_var 0) sa_nil)))) (sb_one (ss_raise x_InvalidColumns cn (by decide) (se_var 0))) sb_nil))
theorem sc_binomial : FnScope ["total", "chosen", "result", "index"] ["total", "chosen"] (defScope s_binomial) := ⟨rfl, rfl, rfl, by decide +kernel, rfl, by decide +kernel, by decide +kernel⟩
theorem d_binomial {fd : FuncData} (T : TT mg T_MAX_COLUMNS) (M : MM mg f__law_catalan f__law_half_count f__law_pool f_is_integer f_is_columns f_check_columns f_binomial f_count_pairings f_count_diagrams f_count_with_through f__law_result f__law_take f_law) (Z : CF mg K gc f__law_catalan f__law_half_count f__law_pool f_is_integer f_is_columns f_check_columns f_binomial f_count_pairings f_count_diagrams f_count_with_through f__law_result f__law_take f_law) (F : Fun K "binomial" "binomial" s_binomial f_binomial fd) : FnG P w K mg base 1 f_binomial fd ["total", "chosen"] (spI (GG gc) m_binomial) :=
  fn_ok (fun _ _ _ => True.intro) F sc_binomial fun cdv A outer s H E p cn => show SB (GG gc) p _ _ _ (b_binomial p) from
    (sb_cons (ss_if (st_cmp (i_lt cn.u0) (se_var 1) se_int) (sb_one (ss_ret se_int)) sb_nil)
    (sb_cons (ss_set 2 se_int cn.nd)
    (sb_cons (ss_for cn (si_range1 T.n_range (se_var 1)) (sg_nm 3 cn.nd) (sb_one (ss_set 2 (se_bin i_fdiv (se_bin i_mul (se_var 2) (se_bin i_sub (se_var 0) (se_var 3))) (se_bin i_add (se_var 3) se_int)) cn.nd)))
    (sb_one (ss_ret (se_var 2))))))
theorem sc_count_pairings : FnScope ["points", "half"] ["points"] (defScope s_count_pairings) := ⟨rfl, rfl, rfl, by decide +kernel, rfl, by decide +kernel, by decide +kernel⟩
theorem d_count_pairings {fd : FuncData} (T : TT mg T_MAX_COLUMNS) (M : MM mg f__law_catalan f__law_half_count f__law_pool f_is_integer f_is_columns f_check_columns f_binomial f_count_pairings f_count_diagrams f_count_with_through f__law_result f__law_take f_law) (Z : CF mg K gc f__law_catalan f__law_half_count f__law_pool f_is_integer f_is_columns f_check_columns f_binomial f_count_pairings f_count_diagrams f_count_with_through f__law_result f__law_take f_law) (F : Fun K "count_pairings" "count_pairings" s_count_pairings f_count_pairings fd) (c_binomial : FC (GG gc) P w K mg base 1 f_binomial m_binomial []) : FnG P w K mg base 2 f_count_pairings fd ["points"] (spI (GG gc) m_count_pairings) :=
  fn_ok (fun _ _ _ => True.intro) F sc_count_pairings fun cdv A outer s H E p cn => show SB (GG gc) p _ _ _ (b_count_pairings p) from
    (sb_cons (ss_set 1 (se_bin i_fdiv (se_var 0) se_int) cn.nd)
    (sb_one (ss_ret (se_bin i_fdiv (se_call c_binomial cn M.m_binomial (sa_cons (se_var 0) (sa_cons (se_var 1) sa_nil))) (se_bin i_add (se_var 1) se_int)))))
theorem sc_count_diagrams : FnScope ["columns"] ["columns"] (defScope s_count_diagrams) := ⟨rfl, rfl, rfl, by decide +kernel, rfl, by decide +kernel, by decide +kernel⟩
theorem d_count_diagrams {fd : FuncData} (T : TT mg T_MAX_COLUMNS) (M : MM mg f__law_catalan f__law_half_count f__law_pool f_is_integer f_is_columns f_check_columns f_binomial f_count_pairings f_count_diagrams f_count_with_through f__law_result f__law_take f_law) (Z : CF mg K gc f__law_catalan f__law_half_count f__law_pool f_is_integer f_is_columns f_check_columns f_binomial f_count_pairings f_count_diagrams f_count_with_through f__law_result f__law_take f_law) (F : Fun K "count_diagrams" "count_diagrams" s_count_diagrams f_count_diagrams fd) (c_check_columns : FC (GG gc) P w K mg base 3 f_check_columns m_check_columns []) (c_count_pairings : FC (GG gc) P w K mg base 3 f_count_pairings m_count_pairings []) : FnG P w K mg base 4 f_count_diagrams fd ["columns"] (spI (GG gc) m_count_diagrams) :=
  fn_ok (fun _ _ _ => True.intro) F sc_count_diagrams fun cdv A outer s H E p cn => show SB (GG gc) p _ _ _ (b_count_diagrams p) from
    (sb_cons (ss_ex (se_call c_check_columns cn M.m_check_columns (sa_cons (se_var 0) sa_nil)))
    (sb_one (ss_ret (se_call c_count_pairings cn M.m_count_pairings (sa_cons (se_bin i_mul se_int (se_var 0)) sa_nil)))))
theorem sc_count_with_through : FnScope ["columns", "through_arcs", "caps"] ["columns", "through_arcs"] (defScope s_count_with_through) := ⟨rfl, rfl, rfl, by decide +kernel, rfl, by decide +kernel, by decide +kernel⟩
theorem d_count_with_through {fd : FuncData} (T : TT mg T_MAX_COLUMNS) (M : MM mg f__law_catalan f__law_half_count f__law_pool f_is_integer f_is_columns f_check_columns f_binomial f_count_pairings f_count_diagrams f_count_with_through f__law_result f__law_take f_law) (Z : CF mg K gc f__law_catalan f__law_half_count f__law_pool f_is_integer f_is_columns f_check_columns f_binomial f_count_pairings f_count_diagrams f_count_with_through f__law_result f__law_take f_law) (F : Fun K "count_with_through" "count_with_through" s_count_with_through f_count_with_through fd) (c_binomial : FC (GG gc) P w K mg base 3 f_binomial m_binomial []) (c_check_columns : FC (GG gc) P w K mg base 3 f_check_columns m_check_columns []) (c_is_integer_1 : FC (GG gc) P w K mg base 3 f_is_integer m_is_integer [.int 0]) (x_InvalidNumber : XC (GG gc) P w K mg base 2 "InvalidNumber" "value") : FnG P w K mg base 4 f_count_with_through fd ["columns", "through_arcs"] (spI (GG gc) m_count_with_through) :=
  fn_ok (fun _ _ _ => True.intro) F sc_count_with_through fun cdv A outer s H E p cn => show SB (GG gc) p _ _ _ (b_count_with_through p) from
    (sb_cons (ss_ex (se_call c_check_columns cn M.m_check_columns (sa_cons (se_var 0) sa_nil)))
    (sb_cons (ss_if (st_not (st_val (se_call c_is_integer_1 cn M.m_is_integer (sa_cons (se_var 1) sa_nil)))) (sb_one (ss_raise x_InvalidNumber cn (by decide) (se_var 1))) sb_nil)
    (sb_cons (ss_if (st_w (sw_or (st_cmp i_gt (se_var 1) (se_var 0)) (sw_or1 (st_cmp (i_eq cn.u64) (se_bin i_mod (se_bin i_sub (se_var 0) (se_var 1)) se_int) se_int)))) (sb_one (ss_ret se_int)) sb_nil)
    (sb_cons (ss_set 2 (se_bin i_fdiv (se_bin i_sub (se_var 0) (se_var 1)) se_int) cn.nd)
    (sb_one (ss_ret (se_bin i_pow (se_bin i_sub (se_call c_binomial cn M.m_binomial (sa_cons (se_var 0) (sa_cons (se_var 2) sa_nil))) (se_call c_binomial cn M.m_binomial (sa_cons (se_var 0) (sa_cons (se_bin i_sub (se_var 2) se_int) sa_nil)))) se_int)))))))
theorem sc__law_result : FnScope ["_law_which", "_law_width", "_law_count", "e"] ["_law_which", "_law_width", "_law_count"] (defScope s__law_result) := ⟨rfl, rfl, rfl, by decide +kernel, rfl, by decide +kernel, by decide +kernel⟩
theorem d__law_result {fd : FuncData} (T : TT mg T_MAX_COLUMNS) (M : MM mg f__law_catalan f__law_half_count f__law_pool f_is_integer f_is_columns f_check_columns f_binomial f_count_pairings f_count_diagrams f_count_with_through f__law_result f__law_take f_law) (Z : CF mg K gc f__law_catalan f__law_half_count f__law_pool f_is_integer f_is_columns f_check_columns f_binomial f_count_pairings f_count_diagrams f_count_with_through f__law_result f__law_take f_law) (F : Fun K "_law_result" "_law_result" s__law_result f__law_result fd) (c_count_diagrams : FC (GG gc) P w K mg base 4 f_count_diagrams m_count_diagrams []) (c_count_with_through : FC (GG gc) P w K mg base 4 f_count_with_through m_count_with_through []) : FnG P w K mg base 5 f__law_result fd ["_law_which", "_law_width", "_law_count"] (spI (GG gc) m__law_result) :=
  fn_ok (fun _ _ _ => True.intro) F sc__law_result fun cdv A outer s H E p cn => show SB (GG gc) p _ _ _ (b__law_result p) from
    (sb_one (ss_try (G := GG gc) rfl cn rfl rfl (fun W pn xe cn => (sb_one (ss_ret (se_if (st_cmp (i_eq cn.u64) (se_var 0) se_int) (se_call c_count_diagrams cn M.m_count_diagrams (sa_cons (se_var 1) sa_nil)) (se_call c_count_with_through cn M.m_count_with_through (sa_cons (se_var 1) (sa_cons (se_var 2) sa_nil))))))) (HS.named ⟨rfl, by decide, .inl Z.nm_InvalidColumns⟩ Z.ex_1_1 (no_cons Z.ex_2_1 no_nil) rfl (i := 3) rfl rfl (fun a oe d pn w hz hf cn => (sb_one (ss_ret (se_tup (sa_cons se_str (sa_cons (se_b (c_repr cn.gd cn.u64) T.n_repr (sa_cons (se_exf Z.xi_1 Z.xn_1 hz hf) sa_nil)) (sa_cons (se_and (se_exi (cV := .ref (gc 0)) Z.xe_1 Z.kt_1_0 (fun _ h => h) (pe_glob (v := .ref (gc 0)) (by rfl) Z.nm_DiagramError rfl) hz hf T.n_isinstance) (se_one (se_not (se_exi (cV := .ref (gc 2)) Z.xe_1 Z.kt_1_2 (fun _ h => h) (pe_glob (v := .ref (gc 2)) (by rfl) Z.nm_InvalidNumber rfl) hz hf T.n_isinstance)))) sa_nil))))))) (HS.named ⟨rfl, by decide, .inl Z.nm_InvalidNumber⟩ Z.ex_2_2 (no_cons Z.ex_1_2 no_nil) rfl (i := 3) rfl rfl (fun a oe d pn w hz hf cn => (sb_one (ss_ret (se_tup (sa_cons se_str (sa_cons (se_b (c_repr cn.gd cn.u64) T.n_repr (sa_cons (se_exf Z.xi_2 Z.xn_2 hz hf) sa_nil)) (sa_cons (se_and (se_exi (cV := .ref (gc 0)) Z.xe_2 Z.kt_2_0 (fun _ h => h) (pe_glob (v := .ref (gc 0)) (by rfl) Z.nm_DiagramError rfl) hz hf T.n_isinstance) (se_one (se_not (se_exi (cV := .ref (gc 1)) Z.xe_2 Z.kt_2_1 (fun _ h => h) (pe_glob (v := .ref (gc 1)) (by rfl) Z.nm_InvalidColumns rfl) hz hf T.n_isinstance)))) sa_nil))))))) HS.nil))))
theorem sc__law_take : FnScope ["_law_pool_here", "_law_count", "_law_result_here"] ["_law_pool_here", "_law_count"] (defScope s__law_take) := ⟨rfl, rfl, rfl, by decide +kernel, rfl, by decide +kernel, by decide +kernel⟩
theorem d__law_take {fd : FuncData} (T : TT mg T_MAX_COLUMNS) (M : MM mg f__law_catalan f__law_half_count f__law_pool f_is_integer f_is_columns f_check_columns f_binomial f_count_pairings f_count_diagrams f_count_with_through f__law_result f__law_take f_law) (Z : CF mg K gc f__law_catalan f__law_half_count f__law_pool f_is_integer f_is_columns f_check_columns f_binomial f_count_pairings f_count_diagrams f_count_with_through f__law_result f__law_take f_law) (F : Fun K "_law_take" "_law_take" s__law_take f__law_take fd) : FnG P w K mg base 1 f__law_take fd ["_law_pool_here", "_law_count"] (spI (GG gc) m__law_take) :=
  fn_ok (fun _ _ _ => True.intro) F sc__law_take fun cdv A outer s H E p cn => show SB (GG gc) p _ _ _ (b__law_take p) from
    (sb_cons (ss_if (st_cmp i_gt (se_ix cn.u1 (se_var 0) se_int) se_int) (sb_cons (ss_set 2 (se_bin i_mod (se_ix cn.u1 (se_var 0) se_int) (se_var 1)) cn.nd)
    (sb_cons (ss_asg (se_bin i_fdiv (se_ix cn.u1 (se_var 0) se_int) (se_var 1)) (sg_sub (s_setx cn.u1) (se_var 0) se_int))
    (sb_one (ss_ret (se_var 2))))) sb_nil)
    (sb_cons (ss_asg (se_bin i_mod (se_bin i_add (se_bin i_mul (se_ix cn.u1 (se_var 0) se_int) se_int) se_int) se_int) (sg_sub (s_setx cn.u1) (se_var 0) se_int))
    (sb_one (ss_ret (se_bin i_mod (se_bin i_fdiv (se_bin i_mod (se_bin i_mul (se_ix cn.u1 (se_var 0) se_int) (se_ix cn.u1 (se_var 0) se_int)) se_int) se_int) (se_var 1))))))
theorem sc_law : FnScope ["_law_script", "_law_k", "_law_pool_here", "_law_width", "_law_found", "_law_walks", "_law_odd", "_law_which", "_law_count", "_law_walk"] ["_law_script"] (defScope s_law) := ⟨rfl, rfl, rfl, by decide +kernel, rfl, by decide +kernel, by decide +kernel⟩
theorem d_law {fd : FuncData} (T : TT mg T_MAX_COLUMNS) (M : MM mg f__law_catalan f__law_half_count f__law_pool f_is_integer f_is_columns f_check_columns f_binomial f_count_pairings f_count_diagrams f_count_with_through f__law_result f__law_take f_law) (Z : CF mg K gc f__law_catalan f__law_half_count f__law_pool f_is_integer f_is_columns f_check_columns f_binomial f_count_pairings f_count_diagrams f_count_with_through f__law_result f__law_take f_law) (F : Fun K "law" "law" s_law f_law fd) (c__law_catalan : FC (GG gc) P w K mg base 5 f__law_catalan m__law_catalan []) (c__law_half_count : FC (GG gc) P w K mg base 5 f__law_half_count m__law_half_count []) (c__law_pool : FC (GG gc) P w K mg base 5 f__law_pool m__law_pool []) (c__law_result : FC (GG gc) P w K mg base 5 f__law_result m__law_result []) (c__law_take : FC (GG gc) P w K mg base 5 f__law_take m__law_take []) : FnG P w K mg base 6 f_law fd ["_law_script"] (spI (GG gc) m_law) :=
  fn_ok (fun _ _ _ => True.intro) F sc_law fun cdv A outer s H E p cn => show SB (GG gc) p _ _ _ (b_law p) from
    (sb_cons (ss_for cn (si_range1 T.n_range (se_b (c_max2 cn.calm) T.n_max (sa_cons se_int (sa_cons (se_b (c_min2 cn.calm) T.n_min (sa_cons se_int (sa_cons (se_b c_len T.n_len (sa_cons (se_var 0) sa_nil)) sa_nil))) sa_nil)))) (sg_nm 1 cn.nd) (sb_cons (ss_set 2 (se_call c__law_pool cn M.m__law_pool (sa_cons (se_var 0) (sa_cons (se_var 1) sa_nil))) cn.nd)
    (sb_cons (ss_set 3 (se_bin i_add se_int (se_call c__law_take cn M.m__law_take (sa_cons (se_var 2) (sa_cons se_int sa_nil)))) cn.nd)
    (sb_cons (ss_setLc 4 (own := [("_law_count", 8)]) (ct := (CTg.nm 8)) cn (si_range1 T.n_range (se_bin i_add (se_var 3) se_int)) (blk_ok (by rfl)) rfl (by decide) (fun _ _ _ _ _ => ctg_1 cn.calm cn.nd) (fun _ _ _ _ _ cn => sts_nil) (fun _ _ _ _ _ cn => (se_call c__law_result cn M.m__law_result (sa_cons se_int (sa_cons (se_var 3) (sa_cons (se_var 8) sa_nil))))) rfl)
    (sb_cons (ss_setLc 5 (own := [("_law_count", 8)]) (ct := (CTg.nm 8)) cn (si_range1 T.n_range (se_bin i_add (se_var 3) se_int)) (blk_ok (by rfl)) rfl (by decide) (fun _ _ _ _ _ => ctg_1 cn.calm cn.nd) (fun _ _ _ _ _ cn => sts_nil) (fun _ _ _ _ _ cn => (se_call c__law_half_count cn M.m__law_half_count (sa_cons (se_var 3) (sa_cons (se_var 8) sa_nil)))) rfl)
    (sb_cons (ss_if (st_cmp (i_ne cn.u64) (se_b (c_repr cn.gd cn.u64) T.n_repr (sa_cons (se_var 4) sa_nil)) (se_b (c_repr cn.gd cn.u64) T.n_repr (sa_cons (se_lc (own := [("_law_walk", 9)]) (ct := (CTg.nm 9)) cn (si_seq (se_var 5)) (blk_ok (by rfl)) rfl (by decide) (fun _ _ _ _ _ => ctg_1 cn.calm cn.nd) (fun _ _ _ _ _ cn => sts_nil) (fun _ _ _ _ _ cn => (se_bin i_mul (se_var 9) (se_var 9)))) sa_nil))) (sb_one (ss_ret se_bl)) sb_nil)
    (sb_cons (ss_if (st_w (sw_or (st_cmp (i_ne cn.u64) (se_b (c_repr cn.gd cn.u64) T.n_repr (sa_cons (se_call c__law_result cn M.m__law_result (sa_cons se_int (sa_cons (se_var 3) (sa_cons se_non sa_nil)))) sa_nil)) (se_b (c_repr cn.gd cn.u64) T.n_repr (sa_cons (se_call c__law_catalan cn M.m__law_catalan (sa_cons (se_var 3) sa_nil)) sa_nil))) (sw_or1 (st_cmp (i_ne cn.u64) (se_b (c_sum cn.calm) T.n_sum (sa_cons (se_var 4) sa_nil)) (se_call c__law_catalan cn M.m__law_catalan (sa_cons (se_var 3) sa_nil)))))) (sb_one (ss_ret se_bl)) sb_nil)
    (sb_cons (ss_if (st_cmp (i_ne cn.u64) (se_call c__law_result cn M.m__law_result (sa_cons se_int (sa_cons (se_var 3) (sa_cons (se_bin i_add (se_bin i_pow se_int se_int) (se_call c__law_take cn M.m__law_take (sa_cons (se_var 2) (sa_cons se_int sa_nil)))) sa_nil)))) se_int) (sb_one (ss_ret se_bl)) sb_nil)
    (sb_cons (ss_set 6 (se_ix cn.u1 (se_lst (sa_cons se_non (sa_cons se_int (sa_cons se_int (sa_cons se_bl (sa_cons se_str (sa_cons (se_tup (sa_cons se_int sa_nil)) (sa_cons (se_un i_neg se_int) (sa_cons (se_bin i_pow se_int se_int) sa_nil))))))))) (se_call c__law_take cn M.m__law_take (sa_cons (se_var 2) (sa_cons se_int sa_nil)))) cn.nd)
    (sb_cons (ss_for cn (si_seq (se_lst (sa_cons se_int (sa_cons se_int sa_nil)))) (sg_nm 7 cn.nd) (sb_one (ss_if (st_cmp (i_ne cn.u64) (se_call c__law_result cn M.m__law_result (sa_cons (se_var 7) (sa_cons (se_var 6) (sa_cons se_non sa_nil)))) (se_tup (sa_cons se_str (sa_cons (se_b (c_repr cn.gd cn.u64) T.n_repr (sa_cons (se_var 6) sa_nil)) (sa_cons se_bl sa_nil))))) (sb_one (ss_ret se_bl)) sb_nil)))
    (sb_cons (ss_set 6 (se_ix cn.u1 (se_lst (sa_cons se_non (sa_cons (se_un i_neg se_int) (sa_cons se_bl (sa_cons se_bl (sa_cons se_str (sa_cons (se_tup (sa_cons se_int sa_nil)) (sa_cons (se_lst (sa_cons se_int sa_nil)) sa_nil)))))))) (se_call c__law_take cn M.m__law_take (sa_cons (se_var 2) (sa_cons se_int sa_nil)))) cn.nd)
    (sb_one (ss_if (st_cmp (i_ne cn.u64) (se_call c__law_result cn M.m__law_result (sa_cons se_int (sa_cons (se_var 3) (sa_cons (se_var 6) sa_nil)))) (se_tup (sa_cons se_str (sa_cons (se_b (c_repr cn.gd cn.u64) T.n_repr (sa_cons (se_var 6) sa_nil)) (sa_cons se_bl sa_nil))))) (sb_one (ss_ret se_bl)) sb_nil)))))))))))))
    (sb_one (ss_ret se_bl)))
end
/-! ### behind the top -/
theorem all_mk {P : Program} {w : World} {K : PySem.W.Frag} {h : Heap} {mg : Str → Option Value} {fa : Addr} {T_MAX_COLUMNS : Tok} {A_0 : Addr} {A_1 : Addr} {A_2 : Addr} {I_1 : Addr} {I_2 : Addr} {f__law_catalan : Addr} {f__law_half_count : Addr} {f__law_pool : Addr} {f_is_integer : Addr} {f_is_columns : Addr} {f_check_columns : Addr} {f_binomial : Addr} {f_count_pairings : Addr} {f_count_diagrams : Addr} {f_count_with_through : Addr} {f__law_result : Addr} {f__law_take : Addr} {f_law : Addr} (X : K.In h) (NG : h.Ns mainGlobals mg) (hfa : mg "law" = some (.ref fa))
    (n_abs : PySem.W.nsIn K mainGlobals "abs" = some none)
    (n_bool : PySem.W.nsIn K mainGlobals "bool" = some none)
    (n_int : PySem.W.nsIn K mainGlobals "int" = some none)
    (n_isinstance : PySem.W.nsIn K mainGlobals "isinstance" = some none)
    (n_len : PySem.W.nsIn K mainGlobals "len" = some none)
    (n_max : PySem.W.nsIn K mainGlobals "max" = some none)
    (n_min : PySem.W.nsIn K mainGlobals "min" = some none)
    (n_range : PySem.W.nsIn K mainGlobals "range" = some none)
    (n_repr : PySem.W.nsIn K mainGlobals "repr" = some none)
    (n_sum : PySem.W.nsIn K mainGlobals "sum" = some none)
    (c_MAX_COLUMNS : PySem.W.nsIn K mainGlobals "MAX_COLUMNS" = some (some (.int 16 T_MAX_COLUMNS)))
    (C_0 : PySem.W.nsIn K mainGlobals "DiagramError" = some (some (.ref A_0)))
    (C_1 : PySem.W.nsIn K mainGlobals "InvalidColumns" = some (some (.ref A_1)))
    (C_2 : PySem.W.nsIn K mainGlobals "InvalidNumber" = some (some (.ref A_2)))
    (a__law_catalan : PySem.W.nsIn K mainGlobals "_law_catalan" = some (some (.ref f__law_catalan)))
    (k__law_catalan : KD K "_law_catalan" "_law_catalan" s__law_catalan f__law_catalan)
    (a__law_half_count : PySem.W.nsIn K mainGlobals "_law_half_count" = some (some (.ref f__law_half_count)))
    (k__law_half_count : KD K "_law_half_count" "_law_half_count" s__law_half_count f__law_half_count)
    (a__law_pool : PySem.W.nsIn K mainGlobals "_law_pool" = some (some (.ref f__law_pool)))
    (k__law_pool : KD K "_law_pool" "_law_pool" s__law_pool f__law_pool)
    (a_is_integer : PySem.W.nsIn K mainGlobals "is_integer" = some (some (.ref f_is_integer)))
    (k_is_integer : KDD K "is_integer" "is_integer" s_is_integer [.int 0] f_is_integer)
    (a_is_columns : PySem.W.nsIn K mainGlobals "is_columns" = some (some (.ref f_is_columns)))
    (k_is_columns : KD K "is_columns" "is_columns" s_is_columns f_is_columns)
    (a_check_columns : PySem.W.nsIn K mainGlobals "check_columns" = some (some (.ref f_check_columns)))
    (k_check_columns : KD K "check_columns" "check_columns" s_check_columns f_check_columns)
    (a_binomial : PySem.W.nsIn K mainGlobals "binomial" = some (some (.ref f_binomial)))
    (k_binomial : KD K "binomial" "binomial" s_binomial f_binomial)
    (a_count_pairings : PySem.W.nsIn K mainGlobals "count_pairings" = some (some (.ref f_count_pairings)))
    (k_count_pairings : KD K "count_pairings" "count_pairings" s_count_pairings f_count_pairings)
    (a_count_diagrams : PySem.W.nsIn K mainGlobals "count_diagrams" = some (some (.ref f_count_diagrams)))
    (k_count_diagrams : KD K "count_diagrams" "count_diagrams" s_count_diagrams f_count_diagrams)
    (a_count_with_through : PySem.W.nsIn K mainGlobals "count_with_through" = some (some (.ref f_count_with_through)))
    (k_count_with_through : KD K "count_with_through" "count_with_through" s_count_with_through f_count_with_through)
    (a__law_result : PySem.W.nsIn K mainGlobals "_law_result" = some (some (.ref f__law_result)))
    (k__law_result : KD K "_law_result" "_law_result" s__law_result f__law_result)
    (a__law_take : PySem.W.nsIn K mainGlobals "_law_take" = some (some (.ref f__law_take)))
    (k__law_take : KD K "_law_take" "_law_take" s__law_take f__law_take)
    (a_law : PySem.W.nsIn K mainGlobals "law" = some (some (.ref f_law)))
    (k_law : KD K "law" "law" s_law f_law)
    (o_1 : OexC K A_1)
    (i_1 : PySem.W.findIn K (.ref A_1) "__init__" = some (some (.ref I_1)))
    (t_1 : PySem.W.typeIn K (.ref I_1) = some (.type "function"))
    (x_1 : KD K "__init__" "InvalidColumns.__init__" (inClass (top 2) 0) I_1)
    (nf_1 : PySem.W.findIn K (.ref A_1) "value" = some none)
    (o_2 : OexC K A_2)
    (i_2 : PySem.W.findIn K (.ref A_2) "__init__" = some (some (.ref I_2)))
    (t_2 : PySem.W.typeIn K (.ref I_2) = some (.type "function"))
    (x_2 : KD K "__init__" "InvalidNumber.__init__" (inClass (top 3) 0) I_2)
    (nf_2 : PySem.W.findIn K (.ref A_2) "value" = some none)
    (r_0 : ClX.CRead K A_0 (.type "type"))
    (q_0 : PySem.W.findCls K (.ref A_0) (.type "type") "__init__" = some (.val (.builtin "ValueError.__init__")))
    (ie_2 : XfC K A_2 ∧ ExcC K A_2)
    (h_kt_2_1 : PySem.W.kitOne K (.ref A_2) (.ref A_1) = some false)
    (h_kt_2_0 : PySem.W.kitOne K (.ref A_2) (.ref A_0) = some true)
    (h_ex_2_2 : PySem.W.exmOne K (.ref A_2) (.ref A_2) = some true)
    (h_ex_1_2 : PySem.W.exmOne K (.ref A_1) (.ref A_2) = some false)
    (ie_1 : XfC K A_1 ∧ ExcC K A_1)
    (h_kt_1_2 : PySem.W.kitOne K (.ref A_1) (.ref A_2) = some false)
    (h_kt_1_0 : PySem.W.kitOne K (.ref A_1) (.ref A_0) = some true)
    (h_ex_1_1 : PySem.W.exmOne K (.ref A_1) (.ref A_1) = some true)
    (h_ex_2_1 : PySem.W.exmOne K (.ref A_2) (.ref A_1) = some false)
    : ∃ G, FLaw G P w K mg 6 fa "_law_script" m_law := by
  have e : f_law = fa := by
    have e := hfa.symm.trans (PySem.W.mg_of X NG a_law)
    cases e
    rfl
  subst e
  obtain ⟨gc, egc⟩ : ∃ gc, gc = gcOf [A_0, A_1, A_2] := ⟨_, rfl⟩
  have T : TT mg T_MAX_COLUMNS := ⟨PySem.W.mg_none_of X NG n_abs, PySem.W.mg_none_of X NG n_bool, PySem.W.mg_none_of X NG n_int, PySem.W.mg_none_of X NG n_isinstance, PySem.W.mg_none_of X NG n_len, PySem.W.mg_none_of X NG n_max, PySem.W.mg_none_of X NG n_min, PySem.W.mg_none_of X NG n_range, PySem.W.mg_none_of X NG n_repr, PySem.W.mg_none_of X NG n_sum, PySem.W.mg_of X NG c_MAX_COLUMNS⟩
  have M : MM mg f__law_catalan f__law_half_count f__law_pool f_is_integer f_is_columns f_check_columns f_binomial f_count_pairings f_count_diagrams f_count_with_through f__law_result f__law_take f_law := ⟨PySem.W.mg_of X NG a__law_catalan, PySem.W.mg_of X NG a__law_half_count, PySem.W.mg_of X NG a__law_pool, PySem.W.mg_of X NG a_is_integer, PySem.W.mg_of X NG a_is_columns, PySem.W.mg_of X NG a_check_columns, PySem.W.mg_of X NG a_binomial, PySem.W.mg_of X NG a_count_pairings, PySem.W.mg_of X NG a_count_diagrams, PySem.W.mg_of X NG a_count_with_through, PySem.W.mg_of X NG a__law_result, PySem.W.mg_of X NG a__law_take, PySem.W.mg_of X NG a_law⟩
  have Z : CF mg K gc f__law_catalan f__law_half_count f__law_pool f_is_integer f_is_columns f_check_columns f_binomial f_count_pairings f_count_diagrams f_count_with_through f__law_result f__law_take f_law := by
    subst egc
    refine ⟨?_, ?_, ?_, ?_, ?_, ?_, ?_, ?_, ?_, ?_, ?_, ?_, ?_, ?_, ?_, ?_, ?_⟩
    · exact ie_2.2
    · exact h_kt_2_1
    · exact PySem.W.mg_of X NG C_1
    · exact h_kt_2_0
    · exact PySem.W.mg_of X NG C_0
    · exact ie_2.1
    · exact nf_2
    · exact h_ex_2_2
    · exact h_ex_1_2
    · exact PySem.W.mg_of X NG C_2
    · exact ie_1.2
    · exact h_kt_1_2
    · exact h_kt_1_0
    · exact ie_1.1
    · exact nf_1
    · exact h_ex_1_1
    · exact h_ex_2_1
  obtain ⟨fd__law_catalan, F__law_catalan⟩ := k__law_catalan
  obtain ⟨fd__law_half_count, F__law_half_count⟩ := k__law_half_count
  obtain ⟨fd__law_pool, F__law_pool⟩ := k__law_pool
  obtain ⟨fd_is_integer, F_is_integer⟩ := k_is_integer
  obtain ⟨fd_is_columns, F_is_columns⟩ := k_is_columns
  obtain ⟨fd_check_columns, F_check_columns⟩ := k_check_columns
  obtain ⟨fd_binomial, F_binomial⟩ := k_binomial
  obtain ⟨fd_count_pairings, F_count_pairings⟩ := k_count_pairings
  obtain ⟨fd_count_diagrams, F_count_diagrams⟩ := k_count_diagrams
  obtain ⟨fd_count_with_through, F_count_with_through⟩ := k_count_with_through
  obtain ⟨fd__law_result, F__law_result⟩ := k__law_result
  obtain ⟨fd__law_take, F__law_take⟩ := k__law_take
  obtain ⟨fd_law, F_law⟩ := k_law
  obtain ⟨fx_1, FX_1⟩ := x_1
  obtain ⟨fx_2, FX_2⟩ := x_2
  have q__law_catalan : Binds K fd__law_catalan ["_law_count"] [] := F__law_catalan.binds fun _ _ _ _ _ _ us hl => match us, hl with | [_], _ => rfl
  have q__law_half_count : Binds K fd__law_half_count ["_law_width", "_law_count"] [] := F__law_half_count.binds fun _ _ _ _ _ _ us hl => match us, hl with | [_, _], _ => rfl
  have q__law_pool : Binds K fd__law_pool ["_law_script", "_law_k"] [] := F__law_pool.binds fun _ _ _ _ _ _ us hl => match us, hl with | [_, _], _ => rfl
  have q_is_columns : Binds K fd_is_columns ["value"] [] := F_is_columns.binds fun _ _ _ _ _ _ us hl => match us, hl with | [_], _ => rfl
  have q_check_columns : Binds K fd_check_columns ["columns"] [] := F_check_columns.binds fun _ _ _ _ _ _ us hl => match us, hl with | [_], _ => rfl
  have q_binomial : Binds K fd_binomial ["total", "chosen"] [] := F_binomial.binds fun _ _ _ _ _ _ us hl => match us, hl with | [_, _], _ => rfl
  have q_count_pairings : Binds K fd_count_pairings ["points"] [] := F_count_pairings.binds fun _ _ _ _ _ _ us hl => match us, hl with | [_], _ => rfl
  have q_count_diagrams : Binds K fd_count_diagrams ["columns"] [] := F_count_diagrams.binds fun _ _ _ _ _ _ us hl => match us, hl with | [_], _ => rfl
  have q_count_with_through : Binds K fd_count_with_through ["columns", "through_arcs"] [] := F_count_with_through.binds fun _ _ _ _ _ _ us hl => match us, hl with | [_, _], _ => rfl
  have q__law_result : Binds K fd__law_result ["_law_which", "_law_width", "_law_count"] [] := F__law_result.binds fun _ _ _ _ _ _ us hl => match us, hl with | [_, _, _], _ => rfl
  have q__law_take : Binds K fd__law_take ["_law_pool_here", "_law_count"] [] := F__law_take.binds fun _ _ _ _ _ _ us hl => match us, hl with | [_, _], _ => rfl
  have q_law : Binds K fd_law ["_law_script"] [] := F_law.binds fun _ _ _ _ _ _ us hl => match us, hl with | [_], _ => rfl
  have qx_1 : Binds K fx_1 ["self", "value"] [] := FX_1.binds fun _ _ _ _ _ _ us hl => match us, hl with | [_, _], _ => rfl
  have qx_2 : Binds K fx_2 ["self", "value"] [] := FX_2.binds fun _ _ _ _ _ _ us hl => match us, hl with | [_, _], _ => rfl
  refine ⟨GG gc, fd_law, ?_, fun base KB NB => ?_⟩
  · obtain ⟨_, _, _, _, _, _, _, _, _, rfl, _, _⟩ := F_law.ex
    exact fun s v => .of_eq rfl
  have e_InvalidColumns : XC (GG gc) P w K mg base 1 "InvalidColumns" "value" := by
    subst egc
    exact xc_mk o_1 rfl (PySem.W.mg_of X NG C_1) i_1 t_1 (x_InvalidColumns FX_1 o_1 nf_1 (PySem.W.mg_of X NG C_0) r_0 q_0) qx_1
  have e_InvalidNumber : XC (GG gc) P w K mg base 2 "InvalidNumber" "value" := by
    subst egc
    exact xc_mk o_2 rfl (PySem.W.mg_of X NG C_2) i_2 t_2 (x_InvalidNumber FX_2 o_2 nf_2 (PySem.W.mg_of X NG C_0) r_0 q_0) qx_2
  have g__law_catalan := d__law_catalan (P := P) (w := w) (base := base) T M Z F__law_catalan
  have e__law_catalan := fc_mk F__law_catalan g__law_catalan q__law_catalan
  have g__law_half_count := d__law_half_count (P := P) (w := w) (base := base) T M Z F__law_half_count
  have e__law_half_count := fc_mk F__law_half_count g__law_half_count q__law_half_count
  have g__law_pool := d__law_pool (P := P) (w := w) (base := base) T M Z F__law_pool
  have e__law_pool := fc_mk F__law_pool g__law_pool q__law_pool
  have g_is_integer := d_is_integer (P := P) (w := w) (base := base) T M Z F_is_integer
  have e_is_integer_0 := fcd_mk (j := 1) (dws := []) F_is_integer g_is_integer (FunD.binds1 F_is_integer 2 1 (by simp) rfl fun _ _ _ _ _ _ _ us its hu hi => match us, its, hu, hi with | [_, _], [_], _, _ => ⟨_, rfl, rfl⟩) (fun _ _ => .nil)
  have e_is_integer_1 := fcd_mk (j := 0) (dws := [.int 0]) F_is_integer g_is_integer (FunD.binds1 F_is_integer 1 0 (by simp) rfl fun _ _ _ _ _ _ _ us its hu hi => match us, its, hu, hi with | [_], [_], _, _ => ⟨_, rfl, rfl⟩) (fun _ _ => .cons (.int _) (.nil))
  have g_is_columns := d_is_columns (P := P) (w := w) (base := base) T M Z F_is_columns (e_is_integer_0.mono (by decide))
  have e_is_columns := fc_mk F_is_columns g_is_columns q_is_columns
  have g_check_columns := d_check_columns (P := P) (w := w) (base := base) T M Z F_check_columns (e_is_columns.mono (by decide)) e_InvalidColumns
  have e_check_columns := fc_mk F_check_columns g_check_columns q_check_columns
  have g_binomial := d_binomial (P := P) (w := w) (base := base) T M Z F_binomial
  have e_binomial := fc_mk F_binomial g_binomial q_binomial
  have g_count_pairings := d_count_pairings (P := P) (w := w) (base := base) T M Z F_count_pairings (e_binomial.mono (by decide))
  have e_count_pairings := fc_mk F_count_pairings g_count_pairings q_count_pairings
  have g_count_diagrams := d_count_diagrams (P := P) (w := w) (base := base) T M Z F_count_diagrams (e_check_columns.mono (by decide)) (e_count_pairings.mono (by decide))
  have e_count_diagrams := fc_mk F_count_diagrams g_count_diagrams q_count_diagrams
  have g_count_with_through := d_count_with_through (P := P) (w := w) (base := base) T M Z F_count_with_through (e_binomial.mono (by decide)) (e_check_columns.mono (by decide)) (e_is_integer_1.mono (by decide)) e_InvalidNumber
  have e_count_with_through := fc_mk F_count_with_through g_count_with_through q_count_with_through
  have g__law_result := d__law_result (P := P) (w := w) (base := base) T M Z F__law_result (e_count_diagrams.mono (by decide)) (e_count_with_through.mono (by decide))
  have e__law_result := fc_mk F__law_result g__law_result q__law_result
  have g__law_take := d__law_take (P := P) (w := w) (base := base) T M Z F__law_take
  have e__law_take := fc_mk F__law_take g__law_take q__law_take
  have g_law := d_law (P := P) (w := w) (base := base) T M Z F_law (e__law_catalan.mono (by decide)) (e__law_half_count.mono (by decide)) (e__law_pool.mono (by decide)) (e__law_result.mono (by decide)) (e__law_take.mono (by decide))
  exact g_law
abbrev lvl : Nat := 6
end K46
set_option Elab.async false
set_option linter.all false
set_option maxRecDepth 100000
/-! CV1: values without cells: what a list holds stands in the value; the relation to cells -/
namespace CV
open PySem PySem.Spec PyProof.Rows L2
open CC (W Ob S Hh Lo R RS rd wr al nxt)

/-- a cell of one's own; shared (never written again); lent -/
inductive Fl where
  | o | s | b
inductive U where
  | non | bl (b : Bool) | int (i : Int) | str (s : Str) | tup (us : List U)
  | lst (z : Fl) (us : List U) | frz (ns : List Int) | dct (z : Fl) (kvs : List (Key × U)) | dtt (z : Fl) (kvs : List (List Key × U)) | ins (z : Fl) (c : Nat) (fs : List (Nat × U))
abbrev VL := List (Option U)
inductive RU (α : Type) where
  | ok (a : α) (v : VL) | exc (c : Nat) (u : U) (v : VL) | bad
inductive RSU where
  | nx (v : VL) | ret (u : U) (v : VL) | brk (v : VL) | ct (v : VL) | exc (c : Nat) (u : U) (v : VL) | bad
def RU.bind {α β : Type} (r : RU α) (k : α → VL → RU β) : RU β :=
  match r with
  | .ok a v => k a v
  | .exc c u v => .exc c u v
  | .bad => .bad

/-- the slots written out before the next part runs (it changes no value: fV_eq) -/
def fV {α : Type} : VL → (VL → α) → α
  | [], k => k []
  | a :: r, k => fV r fun r' => k (a :: r')
theorem fV_eq {α : Type} : ∀ (v : VL) (k : VL → α), fV v k = k v
  | [], k => rfl
  | a :: r, k => by unfold fV; rw [fV_eq r]
abbrev Cf := Nat → Option Ob
abbrev Pr := Nat → Prop
/-- the value u, flagged z, with the parts us, and the cell's content with its parts ws -/
inductive Sh : Fl → U → List U → Ob → List W → Prop
  | lst {z : Fl} {us : List U} {ws : List W} : Sh z (.lst z us) us (.lst ws) ws
  | frz {ns : List Int} : Sh .s (.frz ns) [] (.frz ns) []
  | dct {z : Fl} {kvs : List (Key × U)} {kws : List (Key × W)} (h : kvs.map (·.1) = kws.map (·.1)) : Sh z (.dct z kvs) (kvs.map (·.2)) (.dct kws) (kws.map (·.2))
  | dtt {z : Fl} {kvs : List (List Key × U)} {kws : List (List Key × W)} (h : kvs.map (·.1) = kws.map (·.1)) : Sh z (.dtt z kvs) (kvs.map (·.2)) (.dtt kws) (kws.map (·.2))
  | ins {z : Fl} {c : Nat} {fs : List (Nat × U)} {gs : List (Nat × W)} (h : fs.map (·.1) = gs.map (·.1)) : Sh z (.ins z c fs) (fs.map (·.2)) (.ins c gs) (gs.map (·.2))
mutual
/-- F: the cells of one's own; T: the shared ones -/
inductive D0 (c : Cf) : U → W → List Nat → List Nat → Prop
  | non : D0 c .non .non [] []
  | bl (b : Bool) : D0 c (.bl b) (.bl b) [] []
  | int (i : Int) : D0 c (.int i) (.int i) [] []
  | str (z : Str) : D0 c (.str z) (.str z) [] []
  | tup {us : List U} {ws : List W} {T : List Nat} (r : D0s c us ws [] T) : D0 c (.tup us) (.tup ws) [] T
  | own {n : Nat} {ob : Ob} {u : U} {us : List U} {ws : List W} {F T : List Nat} (h : c n = some ob) (k : Sh .o u us ob ws) (r : D0s c us ws F T) : D0 c u (.ref n) (n :: F) T
  | shr {n : Nat} {ob : Ob} {u : U} {us : List U} {ws : List W} {F T : List Nat} (h : c n = some ob) (k : Sh .s u us ob ws) (r : D0s c us ws F T) : D0 c u (.ref n) [] (n :: (F ++ T))
inductive D0s (c : Cf) : List U → List W → List Nat → List Nat → Prop
  | nil : D0s c [] [] [] []
  | cons {u : U} {w : W} {us : List U} {ws : List W} {F T F' T' : List Nat} (h : D0 c u w F T) (r : D0s c us ws F' T') : D0s c (u :: us) (w :: ws) (F ++ F') (T ++ T')
end
inductive D1 (c : Cf) : U → W → List Nat → List Nat → List Nat → Prop
  | z {u : U} {w : W} {F T : List Nat} (h : D0 c u w F T) : D1 c u w F T []
  | b {n : Nat} {ob : Ob} {u : U} {us : List U} {ws : List W} {F T : List Nat} (h : c n = some ob) (k : Sh .b u us ob ws) (r : D0s c us ws F T) : D1 c u (.ref n) [] T (n :: F)
/-- E: cells of one's own (of any def that runs); B: lent ones -/
def D (c : Cf) (E B : Pr) (u : U) (w : W) (F : List Nat) : Prop := ∃ T Z, D1 c u w F T Z ∧ (∀ a ∈ F, E a) ∧ (∀ a ∈ T, ¬ E a) ∧ ∀ a ∈ Z, B a
inductive Ds (c : Cf) (E B : Pr) : List U → List W → List Nat → Prop
  | nil : Ds c E B [] [] []
  | cons {u : U} {w : W} {us : List U} {ws : List W} {F F' : List Nat} (h : D c E B u w F) (r : Ds c E B us ws F') : Ds c E B (u :: us) (w :: ws) (F ++ F')

mutual
theorem D0.mono {c c' : Cf} : ∀ {u : U} {w : W} {F T : List Nat}, D0 c u w F T → (∀ a, a ∈ F ∨ a ∈ T → c' a = c a) → D0 c' u w F T
  | _, _, _, _, .non, _ => .non
  | _, _, _, _, .bl b, _ => .bl b
  | _, _, _, _, .int i, _ => .int i
  | _, _, _, _, .str z, _ => .str z
  | _, _, _, _, .tup r, h => .tup (D0s.mono r h)
  | _, _, _, _, .own e k r, h => .own ((h _ (.inl (List.mem_cons_self ..))).trans e) k (D0s.mono r fun a ha => h a (ha.imp (List.mem_cons_of_mem _) id))
  | _, _, _, _, .shr e k r, h => .shr ((h _ (.inr (List.mem_cons_self ..))).trans e) k (D0s.mono r fun a ha => h a (.inr (List.mem_cons_of_mem _ (List.mem_append.mpr ha))))
theorem D0s.mono {c c' : Cf} : ∀ {us : List U} {ws : List W} {F T : List Nat}, D0s c us ws F T → (∀ a, a ∈ F ∨ a ∈ T → c' a = c a) → D0s c' us ws F T
  | _, _, _, _, .nil, _ => .nil
  | _, _, _, _, .cons e r, h => .cons (D0.mono e fun a ha => h a (ha.imp (List.mem_append_left _) (List.mem_append_left _))) (D0s.mono r fun a ha => h a (ha.imp (List.mem_append_right _) (List.mem_append_right _)))
end
mutual
theorem D0.alive {c : Cf} : ∀ {u : U} {w : W} {F T : List Nat}, D0 c u w F T → ∀ a, a ∈ F ∨ a ∈ T → c a ≠ none
  | _, _, _, _, .non, _, h => by simp at h
  | _, _, _, _, .bl b, _, h => by simp at h
  | _, _, _, _, .int i, _, h => by simp at h
  | _, _, _, _, .str z, _, h => by simp at h
  | _, _, _, _, .tup r, a, h => D0s.alive r a h
  | _, _, _, _, .own e k r, a, h => by
    rcases h with h | h
    · rcases List.mem_cons.mp h with rfl | h
      · rw [e]; exact fun z => by cases z
      · exact D0s.alive r a (.inl h)
    · exact D0s.alive r a (.inr h)
  | _, _, _, _, .shr e k r, a, h => by
    rcases h with h | h
    · cases h
    · rcases List.mem_cons.mp h with rfl | h
      · rw [e]; exact fun z => by cases z
      · exact D0s.alive r a (List.mem_append.mp h)
theorem D0s.alive {c : Cf} : ∀ {us : List U} {ws : List W} {F T : List Nat}, D0s c us ws F T → ∀ a, a ∈ F ∨ a ∈ T → c a ≠ none
  | _, _, _, _, .nil, _, h => by simp at h
  | _, _, _, _, .cons e r, a, h => by
    simp only [List.mem_append] at h
    rcases h with (h | h) | (h | h)
    · exact D0.alive e a (.inl h)
    · exact D0s.alive r a (.inl h)
    · exact D0.alive e a (.inr h)
    · exact D0s.alive r a (.inr h)
end
theorem D1.mono {c c' : Cf} {u : U} {w : W} {F T Z : List Nat} (h : D1 c u w F T Z) (e : ∀ a, a ∈ F ∨ a ∈ T ∨ a ∈ Z → c' a = c a) : D1 c' u w F T Z := by
  cases h with
  | z h => exact .z (h.mono fun a ha => e a (ha.imp id .inl))
  | b q k r => exact .b ((e _ (.inr (.inr (List.mem_cons_self ..)))).trans q) k (r.mono fun a ha => e a (ha.elim (fun m => .inr (.inr (List.mem_cons_of_mem _ m))) fun m => .inr (.inl m)))
theorem D1.alive {c : Cf} {u : U} {w : W} {F T Z : List Nat} (h : D1 c u w F T Z) (a : Nat) (m : a ∈ F ∨ a ∈ T ∨ a ∈ Z) : c a ≠ none := by
  cases h with
  | z h => exact h.alive a (m.imp id fun m => m.elim id fun m => by cases m)
  | b q k r =>
    rcases m with m | m | m
    · cases m
    · exact r.alive a (.inr m)
    · rcases List.mem_cons.mp m with rfl | m
      · rw [q]; exact fun z => by cases z
      · exact r.alive a (.inl m)
theorem D.alive {c : Cf} {E B : Pr} {u : U} {w : W} {F : List Nat} (h : D c E B u w F) (a : Nat) (m : a ∈ F) : c a ≠ none := by
  obtain ⟨T, Z, h, _⟩ := h
  exact h.alive a (.inl m)
theorem Ds.alive {c : Cf} {E B : Pr} {us : List U} {ws : List W} {F : List Nat} (h : Ds c E B us ws F) (a : Nat) (m : a ∈ F) : c a ≠ none := by
  induction h with
  | nil => cases m
  | cons h r ih => exact (List.mem_append.mp m).elim (h.alive a) ih

/-- from (c, E) to (c', E'): what is shared stays, what is in K stays -/
structure Keep (c : Cf) (E K : Pr) (c' : Cf) (E' : Pr) : Prop where
  sh : ∀ n ob, c n = some ob → ¬ E n → c' n = some ob ∧ ¬ E' n
  kp : ∀ n, K n → c' n = c n ∧ (E n → E' n)
  al : ∀ n, c n ≠ none → c' n ≠ none
theorem Keep.rfl' {c : Cf} {E K : Pr} : Keep c E K c E := ⟨fun _ _ h n => ⟨h, n⟩, fun _ _ => ⟨rfl, id⟩, fun _ h => h⟩
theorem Keep.trans {c c1 c2 : Cf} {E E1 E2 K : Pr} (x : Keep c E K c1 E1) (y : Keep c1 E1 K c2 E2) : Keep c E K c2 E2 :=
  ⟨fun n ob h e => y.sh n ob (x.sh n ob h e).1 (x.sh n ob h e).2, fun n h => ⟨(y.kp n h).1.trans (x.kp n h).1, fun e => (y.kp n h).2 ((x.kp n h).2 e)⟩, fun n h => y.al n (x.al n h)⟩
theorem Keep.weak {c c1 : Cf} {E E1 K K1 : Pr} (x : Keep c E K1 c1 E1) (h : ∀ n, K n → K1 n) : Keep c E K c1 E1 := ⟨x.sh, fun n k => x.kp n (h n k), x.al⟩
theorem D.mono {c c' : Cf} {E E' B K : Pr} {u : U} {w : W} {F : List Nat} (h : D c E B u w F) (x : Keep c E K c' E') (hb : ∀ n, B n → K n) (hf : ∀ a ∈ F, K a) : D c' E' B u w F := by
  obtain ⟨T, Z, d, h1, h2, h3⟩ := h
  have al := d.alive
  refine ⟨T, Z, d.mono fun a ha => ?_, fun a ha => (x.kp a (hf a ha)).2 (h1 a ha), fun a ha => ?_, h3⟩
  · rcases ha with ha | ha | ha
    · exact (x.kp a (hf a ha)).1
    · cases e : c a with
      | none => exact absurd e (al a (.inr (.inl ha)))
      | some ob => exact (x.sh a ob e (h2 a ha)).1
    · exact (x.kp a (hb a (h3 a ha))).1
  · cases e : c a with
    | none => exact absurd e (al a (.inr (.inl ha)))
    | some ob => exact (x.sh a ob e (h2 a ha)).2
theorem Ds.mono {c c' : Cf} {E E' B K : Pr} {us : List U} {ws : List W} {F : List Nat} (h : Ds c E B us ws F) (x : Keep c E K c' E') (hb : ∀ n, B n → K n) (hf : ∀ a ∈ F, K a) : Ds c' E' B us ws F := by
  induction h with
  | nil => exact .nil
  | cons h r ih => exact .cons (h.mono x hb fun a m => hf a (List.mem_append_left _ m)) (ih fun a m => hf a (List.mem_append_right _ m))

/-! ### the slots -/
/-- what stands for the whole def: the values that stand fast, the first argument if it is written -/
structure Ct where
  p : Hh
  aux : List (U × W)
  mp : Option W
  mi : Nat
structure SL (C : Ct) (md : Bool) (c : Cf) (E K B : Pr) (vl : VL) (l : Lo) (Fs : Nat → List Nat) : Prop where
  len : vl.length = l.length
  has : ∀ (i : Nat) (u : U), vl[i]? = some (some u) → ∃ w, l[i]? = some (some w) ∧ D c E B u w (Fs i)
  own : md = true → (∀ i, (Fs i).Nodup ∧ ∀ a ∈ Fs i, ¬ K a) ∧ ∀ i j a, a ∈ Fs i → a ∈ Fs j → i = j
  bor : md = false → ∀ i, ∀ a ∈ Fs i, B a
  ex : ∀ i, ∀ a ∈ Fs i, c a ≠ none ∧ E a
  ax : ∀ u w, (u, w) ∈ C.aux → D c E B u w []
  mpk : ∀ w, C.mp = some w → l[C.mi]? = some (some w)
  ev : ∀ n, c n = none → E n
  bk : ∀ n, B n → K n
  ka : ∀ n, K n → c n ≠ none ∧ E n
/-- the new value's own cells are in no slot and not kept by others -/
def Fr (F : List Nat) (K : Pr) (Fs : Nat → List Nat) : Prop := F.Nodup ∧ ∀ a ∈ F, ¬ K a ∧ ∀ i, a ∉ Fs i
theorem Fr.nil {K : Pr} {Fs : Nat → List Nat} : Fr [] K Fs := ⟨List.nodup_nil, fun _ h => by cases h⟩
def kU (K : Pr) (F : List Nat) : Pr := fun n => K n ∨ n ∈ F
section
variable {C : Ct} {md : Bool} {c c' c1 : Cf} {E E' E1 K K1 B : Pr} {vl vl' : VL} {l l' : Lo} {Fs Fs' : Nat → List Nat} {F : List Nat}
theorem SL.weak (r : SL C md c E K1 B vl l Fs) (h : ∀ n, K n → K1 n) (hb : ∀ n, B n → K n) : SL C md c E K B vl l Fs :=
  ⟨r.len, r.has, fun m => ⟨fun i => ⟨((r.own m).1 i).1, fun a ha k => ((r.own m).1 i).2 a ha (h a k)⟩, (r.own m).2⟩, r.bor, r.ex, r.ax, r.mpk, r.ev, hb, fun n k => r.ka n (h n k)⟩
theorem SL.grow (r : SL C md c E K B vl l Fs) (hf : Fr F K Fs) (ha : ∀ a ∈ F, c a ≠ none ∧ E a) : SL C md c E (kU K F) B vl l Fs :=
  ⟨r.len, r.has, fun m => ⟨fun i => ⟨((r.own m).1 i).1, fun a h k => k.elim (((r.own m).1 i).2 a h) fun k => (hf.2 a k).2 i h⟩, (r.own m).2⟩, r.bor, r.ex, r.ax, r.mpk, r.ev, fun n h => .inl (r.bk n h), fun n k => k.elim (r.ka n) (ha n)⟩
end

/-! ### what is promised -/
abbrev Rl (α' α : Type) := Cf → Pr → Pr → α' → α → List Nat → Prop
def Aft {α' α : Type} (C : Ct) (md : Bool) (c : Cf) (E K B : Pr) (l : Lo) (rel : Rl α' α) (r : RU α') (r' : R α) : Prop :=
  match r with
  | .ok u v => ∃ w s E' F Fs, r' = .ok w s ∧ Keep c E K (rd C.p s) E' ∧ SL C md (rd C.p s) E' K B v l Fs ∧ rel (rd C.p s) E' B u w F ∧ Fr F K Fs
  | .exc k u v => ∃ w s E' Fs, r' = .exc k w s ∧ Keep c E K (rd C.p s) E' ∧ SL C md (rd C.p s) E' K B v l Fs ∧ D (rd C.p s) E' (fun _ => False) u w []
  | .bad => True
def Sim {α' α : Type} (C : Ct) (md : Bool) (rel : Rl α' α) (vm : VL → RU α') (m : Lo → S → R α) : Prop :=
  ∀ s l vl E K B Fs, SL C md (rd C.p s) E K B vl l Fs → Aft C md (rd C.p s) E K B l rel (vm vl) (m l s)
abbrev SimE (C : Ct) (md : Bool) := Sim C md D
abbrev SimA (C : Ct) (md : Bool) := Sim C md Ds
def relB : Rl Bool Bool := fun _ _ _ b b' F => b = b' ∧ F = []
abbrev SimT (C : Ct) (md : Bool) := Sim C md relB
section
variable {α α' β β' : Type} {C : Ct} {md : Bool} {c c1 : Cf} {E E1 K K1 B : Pr} {l : Lo} {rel : Rl α' α} {rel2 : Rl β' β}
theorem Aft.bindK {r : RU α'} {r' : R α} {k : α' → VL → RU β'} {k' : α → S → R β} (kp0 : Keep c E K c1 E1) (sub : ∀ n, K n → K1 n) (hb : ∀ n, B n → K n) (h : Aft C md c1 E1 K1 B l rel r r')
    (hk : ∀ u v w s E2 F Fs, Keep c1 E1 K1 (rd C.p s) E2 → SL C md (rd C.p s) E2 K1 B v l Fs → rel (rd C.p s) E2 B u w F → Fr F K1 Fs → Aft C md c E K B l rel2 (k u v) (k' w s)) : Aft C md c E K B l rel2 (r.bind k) (r'.bind k') := by
  cases r with
  | ok u v =>
    obtain ⟨w, s, E2, F, Fs, e, x, y, z, f⟩ := h
    subst e
    exact hk u v w s E2 F Fs x y z f
  | exc k u v =>
    obtain ⟨w, s, E2, Fs, e, x, y, z⟩ := h
    subst e
    exact ⟨w, s, E2, Fs, rfl, kp0.trans (x.weak sub), y.weak sub hb, z⟩
  | bad => trivial
theorem Aft.bind {r : RU α'} {r' : R α} {k : α' → VL → RU β'} {k' : α → S → R β} (hb : ∀ n, B n → K n) (h : Aft C md c E K B l rel r r')
    (hk : ∀ u v w s E2 F Fs, Keep c E K (rd C.p s) E2 → SL C md (rd C.p s) E2 K B v l Fs → rel (rd C.p s) E2 B u w F → Fr F K Fs → Aft C md c E K B l rel2 (k u v) (k' w s)) : Aft C md c E K B l rel2 (r.bind k) (r'.bind k') :=
  h.bindK .rfl' (fun _ h => h) hb hk
/-- all that stood stays -/
def Ext (c c' : Cf) : Prop := ∀ n ob, c n = some ob → c' n = some ob
theorem Ext.keep (x : Ext c c1) (ka : ∀ n, K n → c n ≠ none ∧ E n) : Keep c E K c1 E :=
  ⟨fun n ob h e => ⟨x n ob h, e⟩, fun n h => ⟨by
    cases e : c n with
    | none => exact absurd e (ka n h).1
    | some ob => exact x n ob e, id⟩, fun n h => by
    cases e : c n with
    | none => exact absurd e h
    | some ob => rw [x n ob e]; exact fun z => by cases z⟩
theorem ext_al {p : Hh} {s : S} {o : Ob} : Ext (rd p s) (rd p (al s o)) := fun n ob h => by
  rw [CC.rd_al, if_neg (fun e => by have := CC.rd_lt h; omega)]; exact h
theorem Ext.rfl' : Ext c c := fun _ _ h => h
theorem D1.ext {u : U} {w : W} {F T Z : List Nat} (h : D1 c u w F T Z) (x : Ext c c1) : D1 c1 u w F T Z := h.mono fun a m => by
  cases e : c a with
  | none => exact absurd e (h.alive a m)
  | some ob => exact x a ob e
theorem D0s.ext {us : List U} {ws : List W} {F T : List Nat} (h : D0s c us ws F T) (x : Ext c c1) : D0s c1 us ws F T := h.mono fun a m => by
  cases e : c a with
  | none => exact absurd e (h.alive a m)
  | some ob => exact x a ob e
theorem D.ext {u : U} {w : W} {F : List Nat} (h : D c E B u w F) (x : Ext c c1) : D c1 E B u w F := by
  obtain ⟨T, Z, d, q⟩ := h
  exact ⟨T, Z, d.ext x, q⟩
theorem Ds.ext {us : List U} {ws : List W} {F : List Nat} (h : Ds c E B us ws F) (x : Ext c c1) : Ds c1 E B us ws F := by
  induction h with
  | nil => exact .nil
  | cons h r ih => exact .cons (h.ext x) ih
theorem SL.ext {vl : VL} {Fs : Nat → List Nat} (r : SL C md c E K B vl l Fs) (x : Ext c c1) (al : ∀ n, c1 n = none → c n = none) : SL C md c1 E K B vl l Fs :=
  ⟨r.len, fun i u h => by
    obtain ⟨w, h1, h2⟩ := r.has i u h
    exact ⟨w, h1, h2.ext x⟩, r.own, r.bor, fun i a h => ⟨fun z => (r.ex i a h).1 (al a z), (r.ex i a h).2⟩, fun u w h => (r.ax u w h).ext x, r.mpk, fun n h => r.ev n (al n h), r.bk, fun n h => ⟨fun z => (r.ka n h).1 (al n z), (r.ka n h).2⟩⟩
theorem none_al {p : Hh} {s : S} {o : Ob} (n : Nat) (h : rd p (al s o) n = none) : rd p s n = none := by
  rw [CC.rd_al] at h
  split at h
  · cases h
  · exact h
theorem rd_new {p : Hh} {s : S} {o : Ob} : rd p (al s o) (nxt p s) = some o := by rw [CC.rd_al, if_pos rfl]
theorem rd_nxt {p : Hh} {s : S} : rd p s (nxt p s) = none := CC.rd_none (Nat.lt_irrefl _)
end
end CV
set_option Elab.async false
set_option linter.all false
set_option maxRecDepth 100000
/-! CV2: expressions on values -/
namespace CV
open PySem PySem.Spec PyProof.Rows L2
open CC (W Ob S Hh Lo R RS rd wr al nxt)

theorem no {P : Nat → Prop} : ∀ a ∈ ([] : List Nat), P a := fun a h => absurd h (by simp)
def frz : U → U
  | .lst .o us => .lst .s us
  | .dct .o k => .dct .s k
  | .dtt .o k => .dtt .s k
  | .ins .o c f => .ins .s c f
  | u => u
def bor : U → U
  | .lst .o us => .lst .b us
  | .dct .o k => .dct .b k
  | .dtt .o k => .dtt .b k
  | .ins .o c f => .ins .b c f
  | u => u
def noB : U → Bool
  | .lst .b _ => false
  | .dct .b _ => false
  | .dtt .b _ => false
  | .ins .b _ _ => false
  | _ => true
def noO : U → Bool
  | .lst .o _ => false
  | .dct .o _ => false
  | .dtt .o _ => false
  | .ins .o _ _ => false
  | _ => true
def itm : Fl → U → U
  | .o, u => u
  | .s, u => frz u
  | .b, u => bor u
section
variable {c : Cf} {E B : Pr} {u : U} {w : W} {us : List U} {ws : List W} {F T Z : List Nat}
theorem D0.frz (h : D0 c u w F T) : ∃ T', D0 c (frz u) w [] T' ∧ ∀ a ∈ T', a ∈ F ∨ a ∈ T := by
  cases h with
  | own e k r =>
    cases k with
    | lst => exact ⟨_, .shr e .lst r, fun a h => by simp only [List.mem_cons, List.mem_append] at h ⊢; rcases h with h | h | h <;> simp [h]⟩
    | dct q => exact ⟨_, .shr e (.dct q) r, fun a h => by simp only [List.mem_cons, List.mem_append] at h ⊢; rcases h with h | h | h <;> simp [h]⟩
    | dtt q => exact ⟨_, .shr e (.dtt q) r, fun a h => by simp only [List.mem_cons, List.mem_append] at h ⊢; rcases h with h | h | h <;> simp [h]⟩
    | ins q => exact ⟨_, .shr e (.ins q) r, fun a h => by simp only [List.mem_cons, List.mem_append] at h ⊢; rcases h with h | h | h <;> simp [h]⟩
  | shr e k r =>
    cases k with
    | lst => exact ⟨_, .shr e .lst r, fun a h => .inr h⟩
    | frz => exact ⟨_, .shr e .frz r, fun a h => .inr h⟩
    | dct q => exact ⟨_, .shr e (.dct q) r, fun a h => .inr h⟩
    | dtt q => exact ⟨_, .shr e (.dtt q) r, fun a h => .inr h⟩
    | ins q => exact ⟨_, .shr e (.ins q) r, fun a h => .inr h⟩
  | non => exact ⟨_, .non, no⟩
  | bl b => exact ⟨_, .bl b, no⟩
  | int i => exact ⟨_, .int i, no⟩
  | str z => exact ⟨_, .str z, no⟩
  | tup r => exact ⟨_, .tup r, fun a h => .inr h⟩
theorem D0.bor (h : D0 c u w F T) : ∃ T' Z', D1 c (bor u) w [] T' Z' ∧ (∀ a ∈ T', a ∈ T) ∧ ∀ a ∈ Z', a ∈ F := by
  cases h with
  | own e k r =>
    cases k with
    | lst => exact ⟨_, _, .b e .lst r, fun a h => h, fun a h => h⟩
    | dct q => exact ⟨_, _, .b e (.dct q) r, fun a h => h, fun a h => h⟩
    | dtt q => exact ⟨_, _, .b e (.dtt q) r, fun a h => h, fun a h => h⟩
    | ins q => exact ⟨_, _, .b e (.ins q) r, fun a h => h, fun a h => h⟩
  | shr e k r =>
    cases k with
    | lst => exact ⟨_, _, .z (.shr e .lst r), fun a h => h, no⟩
    | frz => exact ⟨_, _, .z (.shr e .frz r), fun a h => h, no⟩
    | dct q => exact ⟨_, _, .z (.shr e (.dct q) r), fun a h => h, no⟩
    | dtt q => exact ⟨_, _, .z (.shr e (.dtt q) r), fun a h => h, no⟩
    | ins q => exact ⟨_, _, .z (.shr e (.ins q) r), fun a h => h, no⟩
  | non => exact ⟨_, _, .z .non, fun a h => h, no⟩
  | bl b => exact ⟨_, _, .z (.bl b), fun a h => h, no⟩
  | int i => exact ⟨_, _, .z (.int i), fun a h => h, no⟩
  | str z => exact ⟨_, _, .z (.str z), fun a h => h, no⟩
  | tup r => exact ⟨_, _, .z (.tup r), fun a h => h, no⟩
theorem D1.noB (h : D1 c u w F T Z) (q : noB u = true) : D0 c u w F T ∧ Z = [] := by
  cases h with
  | z h => exact ⟨h, rfl⟩
  | b e k r => cases k <;> cases q
theorem D1.bor (h : D1 c u w F T Z) : ∃ T' Z', D1 c (bor u) w [] T' Z' ∧ (∀ a ∈ T', a ∈ T) ∧ ∀ a ∈ Z', a ∈ F ∨ a ∈ Z := by
  cases h with
  | z h =>
    obtain ⟨T', Z', d, h1, h2⟩ := h.bor
    exact ⟨T', Z', d, h1, fun a m => .inl (h2 a m)⟩
  | b e k r =>
    cases k with
    | lst => exact ⟨_, _, .b e .lst r, fun a h => h, fun a h => .inr h⟩
    | dct q => exact ⟨_, _, .b e (.dct q) r, fun a h => h, fun a h => .inr h⟩
    | dtt q => exact ⟨_, _, .b e (.dtt q) r, fun a h => h, fun a h => .inr h⟩
    | ins q => exact ⟨_, _, .b e (.ins q) r, fun a h => h, fun a h => .inr h⟩
theorem D1.noO (h : D1 c u w F T Z) (q : noO u = true) : F = [] := by
  cases h with
  | z h =>
    cases h with
    | own e k r => cases k <;> cases q
    | _ => rfl
  | b e k r => rfl
theorem D.bor (h : D c E B u w F) (hf : ∀ a ∈ F, B a) : D c E B (bor u) w [] := by
  obtain ⟨T, Z, d, h1, h2, h3⟩ := h
  obtain ⟨T', Z', d', t, z⟩ := d.bor
  exact ⟨T', Z', d', no, fun a m => h2 a (t a m), fun a m => (z a m).elim (hf a) (h3 a)⟩
theorem D.noO (h : D c E B u w F) (q : noO u = true) : F = [] := by
  obtain ⟨T, Z, d, _⟩ := h
  exact d.noO q
theorem D.noB (h : D c E B u w F) (q : noB u = true) {B' : Pr} : D c E B' u w F := by
  obtain ⟨T, Z, d, h1, h2, h3⟩ := h
  obtain ⟨d0, rfl⟩ := d.noB q
  exact ⟨T, [], .z d0, h1, h2, no⟩
theorem D.in (h : D c E B u w F) {B' : Pr} (hb : ∀ a, B a → B' a) : D c E B' u w F := by
  obtain ⟨T, Z, d, h1, h2, h3⟩ := h
  exact ⟨T, Z, d, h1, h2, fun a m => hb a (h3 a m)⟩
theorem D.own (h : D c E B u w F) (a : Nat) (m : a ∈ F) : E a := by
  obtain ⟨T, Z, d, h1, _⟩ := h
  exact h1 a m
theorem Ds.own (h : Ds c E B us ws F) (a : Nat) (m : a ∈ F) : E a := by
  induction h with
  | nil => cases m
  | cons h r ih => exact (List.mem_append.mp m).elim (h.own a) ih
theorem Ds.len (h : Ds c E B us ws F) : us.length = ws.length := by
  induction h with
  | nil => rfl
  | cons h r ih => simp [ih]
/-- less is own: F is given up -/
def dn (E : Pr) (F : List Nat) : Pr := fun n => E n ∧ n ∉ F
theorem D.frz (h : D c E B u w F) (q : CV.noB u = true) {B' : Pr} : D c (dn E F) B' (frz u) w [] := by
  obtain ⟨T, Z, d, h1, h2, h3⟩ := h
  obtain ⟨d0, rfl⟩ := d.noB q
  obtain ⟨T', d', t⟩ := d0.frz
  exact ⟨T', [], .z d', no, fun a m e => (t a m).elim (fun m => e.2 m) fun m => h2 a m e.1, no⟩
theorem D.less (h : D c E B u w F) {G : List Nat} (hd : ∀ a ∈ F, a ∉ G) : D c (dn E G) B u w F := by
  obtain ⟨T, Z, d, h1, h2, h3⟩ := h
  exact ⟨T, Z, d, fun a m => ⟨h1 a m, hd a m⟩, fun a m e => h2 a m e.1, h3⟩
theorem Ds.to0 (h : Ds c E B us ws F) (q : us.all CV.noB = true) : ∃ T, D0s c us ws F T ∧ (∀ a ∈ F, E a) ∧ ∀ a ∈ T, ¬ E a := by
  induction h with
  | nil => exact ⟨[], .nil, no, no⟩
  | cons h r ih =>
    simp only [List.all_cons, Bool.and_eq_true] at q
    obtain ⟨T, Z, d, h1, h2, h3⟩ := h
    obtain ⟨d0, rfl⟩ := d.noB q.1
    obtain ⟨T', d', i1, i2⟩ := ih q.2
    exact ⟨T ++ T', .cons d0 d', fun a m => (List.mem_append.mp m).elim (h1 a) (i1 a), fun a m => (List.mem_append.mp m).elim (h2 a) (i2 a)⟩
theorem D0s.to {F T : List Nat} (h : D0s c us ws F T) (h1 : ∀ a ∈ F, E a) (h2 : ∀ a ∈ T, ¬ E a) : Ds c E B us ws F := by
  induction us generalizing ws F T with
  | nil => cases h; exact .nil
  | cons u us ih =>
    cases h with
    | cons d r => exact .cons ⟨_, [], .z d, fun a m => h1 a (List.mem_append_left _ m), fun a m => h2 a (List.mem_append_left _ m), no⟩ (ih r (fun a m => h1 a (List.mem_append_right _ m)) fun a m => h2 a (List.mem_append_right _ m))
/-- all given up -/
theorem Ds.frz {F : List Nat} (h : Ds c E B us ws F) (q : us.all CV.noB = true) {B' : Pr} {G : List Nat} (hg : ∀ a ∈ F, a ∈ G) : Ds c (dn E G) B' (us.map CV.frz) ws [] := by
  induction h with
  | nil => exact .nil
  | cons h r ih =>
    simp only [List.all_cons, Bool.and_eq_true] at q
    refine .cons (F := []) ?_ (ih q.2 fun a m => hg a (List.mem_append_right _ m))
    obtain ⟨T, Z, d, h1, h2, h3⟩ := h
    obtain ⟨d0, rfl⟩ := d.noB q.1
    obtain ⟨T', d', t⟩ := d0.frz
    exact ⟨T', [], .z d', no, fun a m e => (t a m).elim (fun m => e.2 (hg a (List.mem_append_left _ m))) fun m => h2 a m e.1, no⟩
theorem frz_noB : CV.noB u = true → CV.noB (CV.frz u) = true := by
  intro q
  cases u with
  | lst z us => cases z <;> first | rfl | exact q
  | dct z us => cases z <;> first | rfl | exact q
  | dtt z us => cases z <;> first | rfl | exact q
  | ins z n us => cases z <;> first | rfl | exact q
  | _ => rfl
theorem Ds.tup (h : Ds c E B us ws []) (q : us.all CV.noB = true) {B' : Pr} : D c E B' (.tup us) (.tup ws) [] := by
  obtain ⟨T, d, h1, h2⟩ := h.to0 q
  exact ⟨T, [], .z (.tup d), no, h2, no⟩
end

section
variable {C : Ct} {md : Bool} {c c' c1 : Cf} {E E' E1 K K1 B : Pr} {vl vl' : VL} {l l' : Lo} {Fs Fs' : Nat → List Nat} {F : List Nat}
theorem Keep.dn (h : ∀ a ∈ F, ¬ K a) : Keep c E K c (dn E F) := ⟨fun n ob h e => ⟨h, fun z => e z.1⟩, fun n k => ⟨rfl, fun e => ⟨e, fun m => h n m k⟩⟩, fun n h => h⟩
theorem SL.dn (r : SL C md c E K B vl l Fs) (hf : ∀ a ∈ F, ¬ K a ∧ ∀ i, a ∉ Fs i) (al : ∀ a ∈ F, c a ≠ none) : SL C md c (dn E F) K B vl l Fs :=
  ⟨r.len, fun i u h => by
    obtain ⟨w, h1, h2⟩ := r.has i u h
    exact ⟨w, h1, h2.less fun a m m2 => (hf a m2).2 i m⟩, r.own, r.bor, fun i a m => ⟨(r.ex i a m).1, (r.ex i a m).2, fun m2 => (hf a m2).2 i m⟩, fun u w h => (r.ax u w h).less no, r.mpk, fun n e => ⟨r.ev n e, fun m => al n m e⟩, r.bk, fun n k => ⟨(r.ka n k).1, (r.ka n k).2, fun m => (hf n m).1 k⟩⟩
theorem SL.sep (r : SL C md c E (kU K F) B vl l Fs) (hb : ∀ n, B n → K n) {a : Nat} (m : a ∈ F) (nk : ¬ K a) (i : Nat) : a ∉ Fs i := by
  cases md with
  | true => exact fun h => ((r.own rfl).1 i).2 a h (.inr m)
  | false => exact fun h => nk (hb a (r.bor rfl i a h))
end
structure RM {α' α : Type} (rel : Rl α' α) : Prop where
  mono : ∀ {c : Cf} {E B K : Pr} {c' : Cf} {E' : Pr} {x : α'} {w : α} {F : List Nat}, rel c E B x w F → Keep c E K c' E' → (∀ n, B n → K n) → (∀ a ∈ F, K a) → rel c' E' B x w F
  al : ∀ {c : Cf} {E B : Pr} {x : α'} {w : α} {F : List Nat}, rel c E B x w F → ∀ a ∈ F, c a ≠ none ∧ E a
theorem rmD : RM D := ⟨fun h x b f => h.mono x b f, fun h a m => ⟨h.alive a m, h.own a m⟩⟩
theorem rmDs : RM Ds := ⟨fun h x b f => h.mono x b f, fun h a m => ⟨h.alive a m, h.own a m⟩⟩
theorem rmB : RM relB := ⟨fun h _ _ _ => h, fun h a m => by rw [h.2] at m; cases m⟩
section
variable {α α' β β' γ γ' : Type} {C : Ct} {md : Bool} {c : Cf} {E K B : Pr} {l : Lo} {vl : VL} {s : S} {Fs : Nat → List Nat} {rel : Rl α' α} {rel2 : Rl β' β} {rel3 : Rl γ' γ}
theorem Aft.two {a : VL → RU α'} {ma : Lo → S → R α} {b : VL → RU β'} {mb : Lo → S → R β} {k : α' → β' → VL → RU γ'} {k' : α → β → S → R γ} (m1 : RM rel) (m2 : RM rel2) (ha : Sim C md rel a ma) (hb : Sim C md rel2 b mb) (r : SL C md (rd C.p s) E K B vl l Fs)
    (hk : ∀ x y v wx wy s2 E2 F1 F2 Fs2, Keep (rd C.p s) E K (rd C.p s2) E2 → SL C md (rd C.p s2) E2 K B v l Fs2 → rel (rd C.p s2) E2 B x wx F1 → rel2 (rd C.p s2) E2 B y wy F2 → Fr (F1 ++ F2) K Fs2 → Aft C md (rd C.p s) E K B l rel3 (k x y v) (k' wx wy s2)) :
    Aft C md (rd C.p s) E K B l rel3 ((a vl).bind fun x v1 => (b v1).bind fun y v2 => k x y v2) ((ma l s).bind fun wx s1 => (mb l s1).bind fun wy s2 => k' wx wy s2) := by
  refine (ha s l vl E K B Fs r).bind r.bk fun x v1 wx s1 E1 F1 Fs1 k1 r1 d1 f1 => ?_
  refine (hb s1 l v1 E1 (kU K F1) B Fs1 (r1.grow f1 (m1.al d1))).bindK k1 (fun n h => .inl h) r.bk fun y v2 wy s2 E2 F2 Fs2 k2 r2 d2 f2 => ?_
  refine hk x y v2 wx wy s2 E2 F1 F2 Fs2 (k1.trans (k2.weak fun n h => .inl h)) (r2.weak (fun n h => .inl h) r.bk) (m1.mono d1 k2 r2.bk fun a m => .inr m) d2 ⟨?_, fun a m => ?_⟩
  · exact List.nodup_append.mpr ⟨f1.1, f2.1, fun a h b h2 e => (f2.2 b h2).1 (.inr (e ▸ h))⟩
  · rcases List.mem_append.mp m with m | m
    · exact ⟨(f1.2 a m).1, fun i => r2.sep r.bk m (f1.2 a m).1 i⟩
    · exact ⟨fun h => (f2.2 a m).1 (.inl h), (f2.2 a m).2⟩
end

/-! ### words -/
def ofO (r : Option U) (v : VL) : RU U := match r with
  | some u => .ok u v
  | none => .bad
def eVarB (i : Nat) : VL → RU U := fun v => match v[i]? with
  | some (some u) => .ok (bor u) v
  | _ => .bad
def eVarN (i : Nat) : VL → RU U := fun v => match v[i]? with
  | some (some u) => if noO u then .ok u v else .bad
  | _ => .bad
def eMov (i : Nat) : VL → RU U := fun v => match v[i]? with
  | some (some u) => .ok u (v.set i none)
  | _ => .bad
def eFrz (i : Nat) : VL → RU U := fun v => match v[i]? with
  | some (some u) => if noO u then .ok u v else .ok (frz u) (v.set i (some (frz u)))
  | _ => .bad
def eC (u : U) : VL → RU U := fun v => .ok u v
def eBin (f : U → U → Option U) (ma mb : VL → RU U) : VL → RU U := fun v => (ma v).bind fun x v1 => (mb v1).bind fun y v2 => ofO (f x y) v2
def eUn (f : U → Option U) (ma : VL → RU U) : VL → RU U := fun v => (ma v).bind fun x v1 => ofO (f x) v1
def aNil : VL → RU (List U) := fun v => .ok [] v
def aCons (ma : VL → RU U) (mr : VL → RU (List U)) : VL → RU (List U) := fun v => (ma v).bind fun x v1 => (mr v1).bind fun xs v2 => .ok (x :: xs) v2
def eTup (mr : VL → RU (List U)) : VL → RU U := fun v => (mr v).bind fun us v1 => if us.length ≤ 1000000 ∧ us.all noB = true then .ok (.tup (us.map frz)) v1 else .bad
def eLst (mr : VL → RU (List U)) : VL → RU U := fun v => (mr v).bind fun us v1 => if us.length ≤ 1000000 ∧ us.all noB = true then .ok (.lst .o us) v1 else .bad
def eB (f : List U → Option U) (mr : VL → RU (List U)) : VL → RU U := fun v => (mr v).bind fun us v1 => ofO (f us) v1
def eIf (mt : VL → RU Bool) (ma mb : VL → RU U) : VL → RU U := fun v => (mt v).bind fun c v1 => match c with
  | true => ma v1
  | false => mb v1
def eAndV (ma mb : VL → RU U) : VL → RU U := fun v => (ma v).bind fun x v1 => match x with
  | .bl true => mb v1
  | .bl false => .ok (.bl false) v1
  | _ => .bad
def eOrV (ma mb : VL → RU U) : VL → RU U := fun v => (ma v).bind fun x v1 => match x with
  | .bl false => mb v1
  | .bl true => .ok (.bl true) v1
  | _ => .bad
def eNotV (ma : VL → RU U) : VL → RU U := fun v => (ma v).bind fun x v1 => match x with
  | .bl c => .ok (.bl (!c)) v1
  | _ => .bad
def tVal (ma : VL → RU U) : VL → RU Bool := fun v => (ma v).bind fun x v1 => match x with
  | .bl c => .ok c v1
  | _ => .bad
def tAndT (ma mb : VL → RU Bool) : VL → RU Bool := fun v => (ma v).bind fun c v1 => match c with
  | true => mb v1
  | false => .ok false v1
def tOrT (ma mb : VL → RU Bool) : VL → RU Bool := fun v => (ma v).bind fun c v1 => match c with
  | false => mb v1
  | true => .ok true v1
def tNotT (ma : VL → RU Bool) : VL → RU Bool := fun v => (ma v).bind fun c v1 => .ok (!c) v1
def tTrue : VL → RU Bool := fun v => .ok true v
def eChain (f f' : U → U → Option U) (ma mb mc : VL → RU U) : VL → RU U := fun v => (ma v).bind fun x v1 => (mb v1).bind fun y v2 => match f x y with
  | some (.bl true) => (mc v2).bind fun u v3 => ofO (f' y u) v3
  | some (.bl false) => .ok (.bl false) v2
  | _ => .bad
def vB (m : VL → RU U) : VL → RU U := fun v => match m v with
  | .ok u _ => if noB u then .ok u v else .bad
  | .exc k u _ => .exc k u v
  | .bad => .bad
def tB (m : VL → RU Bool) : VL → RU Bool := fun v => match m v with
  | .ok u _ => .ok u v
  | .exc k u _ => .exc k u v
  | .bad => .bad

def Op2 (f : Hh → W → W → S → CC.O2) (g : U → U → Option U) : Prop :=
  ∀ {p : Hh} {s : S} {E B : Pr} {x y u : U} {wx wy : W} {Fx Fy : List Nat}, D (rd p s) E B x wx Fx → D (rd p s) E B y wy Fy → (∀ n, rd p s n = none → E n) → (Fx ++ Fy).Nodup → g x y = some u →
    ∃ w s' F, f p wx wy s = some (w, s') ∧ Ext (rd p s) (rd p s') ∧ (∀ n, rd p s' n = none → rd p s n = none) ∧ D (rd p s') E B u w F ∧ F.Nodup ∧ ∀ a ∈ F, a ∈ Fx ++ Fy ∨ rd p s a = none
def Op1 (f : Hh → W → S → CC.O2) (g : U → Option U) : Prop :=
  ∀ {p : Hh} {s : S} {E B : Pr} {x u : U} {wx : W} {Fx : List Nat}, D (rd p s) E B x wx Fx → (∀ n, rd p s n = none → E n) → Fx.Nodup → g x = some u →
    ∃ w s' F, f p wx s = some (w, s') ∧ Ext (rd p s) (rd p s') ∧ (∀ n, rd p s' n = none → rd p s n = none) ∧ D (rd p s') E B u w F ∧ F.Nodup ∧ ∀ a ∈ F, a ∈ Fx ∨ rd p s a = none
def OpN (f : Hh → List W → S → CC.O2) (g : List U → Option U) : Prop :=
  ∀ {p : Hh} {s : S} {E B : Pr} {xs : List U} {u : U} {ws : List W} {Fx : List Nat}, Ds (rd p s) E B xs ws Fx → (∀ n, rd p s n = none → E n) → Fx.Nodup → g xs = some u →
    ∃ w s' F, f p ws s = some (w, s') ∧ Ext (rd p s) (rd p s') ∧ (∀ n, rd p s' n = none → rd p s n = none) ∧ D (rd p s') E B u w F ∧ F.Nodup ∧ ∀ a ∈ F, a ∈ Fx ∨ rd p s a = none

section
variable {C : Ct} {md : Bool}
/-- the end of a word that adds cells at most -/
theorem fin_ext {c : Cf} {E E2 K B : Pr} {l : Lo} {v : VL} {s2 s3 : S} {Fs2 : Nat → List Nat} {u : U} {w : W} {F F1 : List Nat} (k : Keep c E K (rd C.p s2) E2) (r : SL C md (rd C.p s2) E2 K B v l Fs2) (f : Fr F1 K Fs2)
    (x : Ext (rd C.p s2) (rd C.p s3)) (al : ∀ n, rd C.p s3 n = none → rd C.p s2 n = none) (d : D (rd C.p s3) E2 B u w F) (nd : F.Nodup) (sub : ∀ a ∈ F, a ∈ F1 ∨ rd C.p s2 a = none) : Aft C md c E K B l D (.ok u v) (.ok w s3) :=
  ⟨w, s3, E2, F, Fs2, rfl, k.trans (x.keep r.ka), r.ext x al, d, nd, fun a m => (sub a m).elim (f.2 a) fun e => ⟨fun h => (r.ka a h).1 e, fun i h => (r.ex i a h).1 e⟩⟩
theorem sim_bin {f : Hh → W → W → S → CC.O2} {g : U → U → Option U} {a b : VL → RU U} {ma mb : Lo → S → R W} (hf : Op2 f g) (ha : SimE C md a ma) (hb : SimE C md b mb) : SimE C md (eBin g a b) (CC.eBin f C.p ma mb) := fun s l vl E K B Fs r => by
  refine Aft.two rmD rmD ha hb r fun x y v wx wy s2 E2 F1 F2 Fs2 k2 r2 d1 d2 f2 => ?_
  cases e : g x y with
  | none => trivial
  | some u =>
    obtain ⟨w, s3, F, q, x3, al, d, nd, sub⟩ := hf d1 d2 r2.ev f2.1 e
    rw [q]
    exact fin_ext k2 r2 f2 x3 al d nd sub
theorem sim_un {f : Hh → W → S → CC.O2} {g : U → Option U} {a : VL → RU U} {ma : Lo → S → R W} (hf : Op1 f g) (ha : SimE C md a ma) : SimE C md (eUn g a) (CC.eUn f C.p ma) := fun s l vl E K B Fs r => by
  refine (ha s l vl E K B Fs r).bind r.bk fun x v wx s2 E2 F1 Fs2 k2 r2 d1 f1 => ?_
  cases e : g x with
  | none => trivial
  | some u =>
    obtain ⟨w, s3, F, q, x3, al, d, nd, sub⟩ := hf d1 r2.ev f1.1 e
    rw [q]
    exact fin_ext k2 r2 f1 x3 al d nd sub
theorem sim_b {f : Hh → List W → S → CC.O2} {g : List U → Option U} {a : VL → RU (List U)} {ma : Lo → S → R (List W)} (hf : OpN f g) (ha : SimA C md a ma) : SimE C md (eB g a) (CC.eB f C.p ma) := fun s l vl E K B Fs r => by
  refine (ha s l vl E K B Fs r).bind r.bk fun x v wx s2 E2 F1 Fs2 k2 r2 d1 f1 => ?_
  cases e : g x with
  | none => trivial
  | some u =>
    obtain ⟨w, s3, F, q, x3, al, d, nd, sub⟩ := hf d1 r2.ev f1.1 e
    rw [q]
    exact fin_ext k2 r2 f1 x3 al d nd sub
theorem sim_nil : SimA C md aNil CC.aNil := fun s l vl E K B Fs r => ⟨_, s, E, [], Fs, rfl, .rfl', r, .nil, .nil⟩
theorem sim_cons {a : VL → RU U} {ma : Lo → S → R W} {b : VL → RU (List U)} {mb : Lo → S → R (List W)} (ha : SimE C md a ma) (hb : SimA C md b mb) : SimA C md (aCons a b) (CC.aCons ma mb) := fun s l vl E K B Fs r =>
  Aft.two rmD rmDs ha hb r fun x y v wx wy s2 E2 F1 F2 Fs2 k2 r2 d1 d2 f2 => ⟨_, s2, E2, F1 ++ F2, Fs2, rfl, k2, r2, .cons d1 d2, f2⟩
theorem sim_sc {u : U} {w : W} (h : ∀ c, D0 c u w [] []) : SimE C md (eC u) (CC.eC w) := fun s l vl E K B Fs r => ⟨w, s, E, [], Fs, rfl, .rfl', r, ⟨[], [], .z (h _), no, no, no⟩, .nil⟩
theorem sim_int {i : Int} : SimE C md (eC (.int i)) (CC.eC (.int i)) := sim_sc fun _ => .int i
theorem sim_bl {b : Bool} : SimE C md (eC (.bl b)) (CC.eC (.bl b)) := sim_sc fun _ => .bl b
theorem sim_str {z : Str} : SimE C md (eC (.str z)) (CC.eC (.str z)) := sim_sc fun _ => .str z
theorem sim_non : SimE C md (eC .non) (CC.eC .non) := sim_sc fun _ => .non
theorem sim_aux {u : U} {w : W} (h : (u, w) ∈ C.aux) : SimE C md (eC u) (CC.eC w) := fun s l vl E K B Fs r => ⟨w, s, E, [], Fs, rfl, .rfl', r, r.ax u w h, .nil⟩
theorem var_ok {l : Lo} {i : Nat} {w : W} {s : S} (h : l[i]? = some (some w)) : CC.eVar i l s = .ok w s := by unfold CC.eVar; rw [h]
theorem sim_varB (i : Nat) : SimE C false (eVarB i) (CC.eVar i) := fun s l vl E K B Fs r => by
  unfold eVarB
  split
  · rename_i u e
    obtain ⟨w, h1, h2⟩ := r.has i u e
    exact ⟨w, s, E, [], Fs, var_ok h1, .rfl', r, h2.bor (r.bor rfl i), .nil⟩
  · trivial
theorem sim_varN (i : Nat) : SimE C md (eVarN i) (CC.eVar i) := fun s l vl E K B Fs r => by
  unfold eVarN
  split
  · rename_i u e
    split
    · rename_i q
      obtain ⟨w, h1, h2⟩ := r.has i u e
      have f0 := h2.noO q
      rw [f0] at h2
      exact ⟨w, s, E, [], Fs, var_ok h1, .rfl', r, h2, .nil⟩
    · trivial
  · trivial
end
def upF (Fs : Nat → List Nat) (i : Nat) (F : List Nat) : Nat → List Nat := fun j => if j = i then F else Fs j
theorem upF_same {Fs : Nat → List Nat} {i : Nat} {F : List Nat} : upF Fs i F i = F := if_pos rfl
theorem upF_ne {Fs : Nat → List Nat} {i j : Nat} {F : List Nat} (h : j ≠ i) : upF Fs i F j = Fs j := if_neg h
section
variable {C : Ct} {md : Bool} {c : Cf} {E K B : Pr} {vl : VL} {l : Lo} {Fs : Nat → List Nat} {F : List Nat}
/-- a slot with another value (or none) over the same W, or another W -/
theorem SL.put (r : SL C md c E K B vl l Fs) (i : Nat) (o : Option U) (w : W) (l' : Lo) (hl : l'.length = l.length) (hsame : ∀ j, j ≠ i → l'[j]? = l[j]?) (hw : ∀ u, o = some u → i < vl.length → l'[i]? = some (some w) ∧ D c E B u w F)
    (hmp : ∀ w, C.mp = some w → l'[C.mi]? = some (some w)) (nd : F.Nodup) (hf : ∀ a ∈ F, c a ≠ none ∧ E a ∧ (md = true → ¬ K a ∧ ∀ j, j ≠ i → a ∉ Fs j) ∧ (md = false → B a)) : SL C md c E K B (vl.set i o) l' (upF Fs i F) :=
  ⟨by simp [r.len, hl], fun j u h => by
    by_cases e : j = i
    · subst e
      by_cases hi : j < vl.length
      · rw [List.getElem?_set_self hi] at h
        cases h
        rw [upF_same]
        exact ⟨w, hw u rfl hi⟩
      · rw [List.getElem?_eq_none (by simpa using hi)] at h
        cases h
    · rw [List.getElem?_set_ne (Ne.symm e)] at h
      obtain ⟨w, h1, h2⟩ := r.has j u h
      rw [upF_ne e]
      exact ⟨w, (hsame j e).trans h1, h2⟩, fun m => ⟨fun j => by
    by_cases e : j = i
    · subst e; rw [upF_same]; exact ⟨nd, fun a h => ((hf a h).2.2.1 m).1⟩
    · rw [upF_ne e]; exact (r.own m).1 j, fun j k a hj hk => by
    by_cases e : j = i
    · by_cases e2 : k = i
      · rw [e, e2]
      · rw [e, upF_same] at hj
        rw [upF_ne e2] at hk
        exact absurd hk (((hf a hj).2.2.1 m).2 k e2)
    · by_cases e2 : k = i
      · rw [e2, upF_same] at hk
        rw [upF_ne e] at hj
        exact absurd hj (((hf a hk).2.2.1 m).2 j e)
      · rw [upF_ne e] at hj
        rw [upF_ne e2] at hk
        exact (r.own m).2 j k a hj hk⟩, fun m j a h => by
    by_cases e : j = i
    · rw [e, upF_same] at h; exact (hf a h).2.2.2 m
    · rw [upF_ne e] at h; exact r.bor m j a h, fun j a h => by
    by_cases e : j = i
    · rw [e, upF_same] at h; exact ⟨(hf a h).1, (hf a h).2.1⟩
    · rw [upF_ne e] at h; exact r.ex j a h, r.ax, hmp, r.ev, r.bk, r.ka⟩
theorem sim_mov (i : Nat) : SimE C true (eMov i) (CC.eVar i) := fun s l vl E K B Fs r => by
  unfold eMov
  split
  · rename_i u e
    obtain ⟨w, h1, h2⟩ := r.has i u e
    have o := (r.own rfl).1 i
    refine ⟨w, s, E, Fs i, upF Fs i [], var_ok h1, .rfl', r.put i none w l rfl (fun _ _ => rfl) (fun u z => (nomatch z)) r.mpk List.nodup_nil (no), h2, o.1, fun a m => ⟨o.2 a m, fun j => ?_⟩⟩
    by_cases q : j = i
    · rw [q, upF_same]; exact fun z => by cases z
    · rw [upF_ne q]; exact fun z => q ((r.own rfl).2 j i a z m)
  · trivial
theorem noB_of_own {u : U} (h : noO u ≠ true) : noB u = true := by
  cases u with
  | lst z us => cases z <;> first | rfl | exact absurd rfl h
  | dct z us => cases z <;> first | rfl | exact absurd rfl h
  | dtt z us => cases z <;> first | rfl | exact absurd rfl h
  | ins z n us => cases z <;> first | rfl | exact absurd rfl h
  | _ => rfl
theorem sim_frz (i : Nat) : SimE C true (eFrz i) (CC.eVar i) := fun s l vl E K B Fs r => by
  unfold eFrz
  split
  · rename_i u e
    obtain ⟨w, h1, h2⟩ := r.has i u e
    split
    · rename_i q
      have f0 := h2.noO q
      rw [f0] at h2
      exact ⟨w, s, E, [], Fs, var_ok h1, .rfl', r, h2, .nil⟩
    · rename_i q
      have o := (r.own rfl).1 i
      have nb := noB_of_own q
      have hi : i < vl.length := (List.getElem?_eq_some_iff.mp e).1
      have d := h2.frz nb (B' := B)
      have r1 := r.put i none w l rfl (fun _ _ => rfl) (fun u z => (nomatch z)) r.mpk List.nodup_nil (no)
      have nf : ∀ a ∈ Fs i, ¬ K a ∧ ∀ j, a ∉ upF Fs i [] j := fun a m => ⟨o.2 a m, fun j => by
        by_cases q : j = i
        · rw [q, upF_same]; exact fun z => by cases z
        · rw [upF_ne q]; exact fun z => q ((r.own rfl).2 j i a z m)⟩
      have r2 := r1.dn (F := Fs i) nf (fun a m => (r.ex i a m).1)
      have r3 := r2.put i (some (frz u)) w l rfl (fun _ _ => rfl) (fun u z _ => by cases z; exact ⟨h1, d⟩) r.mpk List.nodup_nil (no)
      rw [List.set_set] at r3
      exact ⟨w, s, dn E (Fs i), [], _, var_ok h1, .dn fun a m => (nf a m).1, r3, d, .nil⟩
  · trivial
theorem sim_tup {a : VL → RU (List U)} {ma : Lo → S → R (List W)} (ha : SimA C md a ma) : SimE C md (eTup a) (CC.eTup ma) := fun s l vl E K B Fs r => by
  refine (ha s l vl E K B Fs r).bind r.bk fun us v ws s2 E2 F1 Fs2 k2 r2 d1 f1 => ?_
  split
  · rename_i q
    rw [if_pos (by rw [← d1.len]; exact q.1)]
    have d2 := d1.frz q.2 (B' := B) (G := F1) (fun a h => h)
    have q2 : (us.map frz).all noB = true := by
      have := q.2
      rw [List.all_eq_true] at this ⊢
      intro x hx
      obtain ⟨y, hy, rfl⟩ := List.mem_map.mp hx
      exact frz_noB (this y hy)
    exact ⟨_, s2, dn E2 F1, [], Fs2, rfl, k2.trans (.dn fun a m => (f1.2 a m).1), r2.dn f1.2 (d1.alive), d2.tup q2, .nil⟩
  · trivial
/-- a new list -/
theorem new_lst {p : Hh} {s : S} {E B : Pr} {us : List U} {ws : List W} {F : List Nat} (d : Ds (rd p s) E B us ws F) (q : us.all noB = true) (ev : ∀ n, rd p s n = none → E n) (nd : F.Nodup) : D (rd p (al s (.lst ws))) E B (.lst .o us) (.ref (nxt p s)) (nxt p s :: F) ∧ (nxt p s :: F).Nodup := by
  obtain ⟨T, d0, h1, h2⟩ := d.to0 q
  refine ⟨⟨T, [], .z (.own rd_new .lst (d0.ext ext_al)), fun a m => ?_, h2, no⟩, List.nodup_cons.mpr ⟨fun m => d.alive _ m rd_nxt, nd⟩⟩
  rcases List.mem_cons.mp m with rfl | m
  · exact ev _ rd_nxt
  · exact h1 a m
theorem sim_lst {a : VL → RU (List U)} {ma : Lo → S → R (List W)} (ha : SimA C md a ma) : SimE C md (eLst a) (CC.eLst C.p ma) := fun s l vl E K B Fs r => by
  refine (ha s l vl E K B Fs r).bind r.bk fun us v ws s2 E2 F1 Fs2 k2 r2 d1 f1 => ?_
  split
  · rename_i q
    rw [if_pos (by rw [← d1.len]; exact q.1)]
    obtain ⟨d, nd⟩ := new_lst d1 q.2 r2.ev f1.1
    exact fin_ext k2 r2 f1 ext_al none_al d nd fun a m => (List.mem_cons.mp m).elim (fun e => .inr (by rw [e]; exact rd_nxt)) .inl
  · trivial
theorem relB_fr {α β : Type} {C : Ct} {md : Bool} {c : Cf} {E K B : Pr} {l : Lo} {rel2 : Rl α β} {r : RU Bool} {r' : R Bool} {k : Bool → VL → RU α} {k' : Bool → S → R β} (hb : ∀ n, B n → K n) (h : Aft C md c E K B l relB r r')
    (hk : ∀ b v s E2 Fs, Keep c E K (rd C.p s) E2 → SL C md (rd C.p s) E2 K B v l Fs → Aft C md c E K B l rel2 (k b v) (k' b s)) : Aft C md c E K B l rel2 (r.bind k) (r'.bind k') :=
  h.bind hb fun b v b' s E2 F Fs k r q f => by
    obtain ⟨rfl, _⟩ := q
    exact hk b v s E2 Fs k r
/-- a word behind another one, from where that ended -/
theorem Aft.then {α β : Type} {c1 : Cf} {E1 : Pr} {rel : Rl α β} {r : RU α} {r' : R β} (k : Keep c E K c1 E1) (h : Aft C md c1 E1 K B l rel r r') : Aft C md c E K B l rel r r' := by
  cases r with
  | ok u v =>
    obtain ⟨w, s, E2, F, Fs, e, x, y⟩ := h
    exact ⟨w, s, E2, F, Fs, e, k.trans x, y⟩
  | exc q u v =>
    obtain ⟨w, s, E2, Fs, e, x, y⟩ := h
    exact ⟨w, s, E2, Fs, e, k.trans x, y⟩
  | bad => trivial
theorem sim_if {t : VL → RU Bool} {a b : VL → RU U} {mt : Lo → S → R Bool} {ma mb : Lo → S → R W} (ht : SimT C md t mt) (ha : SimE C md a ma) (hb : SimE C md b mb) : SimE C md (eIf t a b) (CC.eIf mt ma mb) := fun s l vl E K B Fs r =>
  relB_fr r.bk (ht s l vl E K B Fs r) fun c v s2 E2 Fs2 k2 r2 => by
    cases c with
    | true => exact (ha s2 l v E2 K B Fs2 r2).then k2
    | false => exact (hb s2 l v E2 K B Fs2 r2).then k2
theorem d_bl {c : Cf} {E B : Pr} {b : Bool} : D c E B (.bl b) (.bl b) [] := ⟨[], [], .z (.bl b), no, no, no⟩
theorem d_int {c : Cf} {E B : Pr} {b : Int} : D c E B (.int b) (.int b) [] := ⟨[], [], .z (.int b), no, no, no⟩
theorem d_str {c : Cf} {E B : Pr} {b : Str} : D c E B (.str b) (.str b) [] := ⟨[], [], .z (.str b), no, no, no⟩
theorem d_non {c : Cf} {E B : Pr} : D c E B .non .non [] := ⟨[], [], .z .non, no, no, no⟩
theorem D.is_bl {c : Cf} {E B : Pr} {b : Bool} {w : W} {F : List Nat} (h : D c E B (.bl b) w F) : w = .bl b := by
  obtain ⟨T, Z, d, _⟩ := h
  cases d with
  | z d => cases d with
    | bl => rfl
    | own _ k _ => cases k
    | shr _ k _ => cases k
  | b _ k _ => cases k
/-- the value is a truth value, or the word is bad -/
theorem val_bl {α β : Type} {rel2 : Rl α β} {r : RU U} {r' : R W} {k : Bool → VL → RU α} {k' : Bool → S → R β} (hb : ∀ n, B n → K n) (h : Aft C md c E K B l D r r')
    (hk : ∀ b v s E2 Fs, Keep c E K (rd C.p s) E2 → SL C md (rd C.p s) E2 K B v l Fs → Aft C md c E K B l rel2 (k b v) (k' b s)) : Aft C md c E K B l rel2 (r.bind fun x v => match x with | .bl b => k b v | _ => .bad) (r'.bind fun x s => match x with | .bl b => k' b s | _ => .bad) :=
  h.bind hb fun x v w s E2 F Fs k2 r2 d f => by
    cases x with
    | bl b =>
      obtain rfl := d.is_bl
      exact hk b v s E2 Fs k2 r2
    | _ => trivial
theorem sim_val {a : VL → RU U} {ma : Lo → S → R W} (ha : SimE C md a ma) : SimT C md (tVal a) (CC.tVal ma) := fun s l vl E K B Fs r =>
  val_bl (k := fun b v => .ok b v) (k' := fun b s => .ok b s) r.bk (ha s l vl E K B Fs r) fun b v s2 E2 Fs2 k2 r2 => ⟨b, s2, E2, [], Fs2, rfl, k2, r2, ⟨rfl, rfl⟩, .nil⟩
theorem sim_notV {a : VL → RU U} {ma : Lo → S → R W} (ha : SimE C md a ma) : SimE C md (eNotV a) (CC.eNotV ma) := fun s l vl E K B Fs r =>
  val_bl (k := fun b v => RU.ok (U.bl (!b)) v) (k' := fun b s => R.ok (W.bl (!b)) s) r.bk (ha s l vl E K B Fs r) fun b v s2 E2 Fs2 k2 r2 => ⟨_, s2, E2, [], Fs2, rfl, k2, r2, d_bl, .nil⟩
theorem sim_andV {a b : VL → RU U} {ma mb : Lo → S → R W} (ha : SimE C md a ma) (hb : SimE C md b mb) : SimE C md (eAndV a b) (CC.eAndV ma mb) := fun s l vl E K B Fs r => by
  refine (ha s l vl E K B Fs r).bind r.bk fun x v w s2 E2 F Fs2 k2 r2 d f => ?_
  cases x with
  | bl c =>
    obtain rfl := d.is_bl
    cases c with
    | true => exact (hb s2 l v E2 K B Fs2 r2).then k2
    | false => exact ⟨_, s2, E2, [], Fs2, rfl, k2, r2, d_bl, .nil⟩
  | _ => trivial
theorem sim_orV {a b : VL → RU U} {ma mb : Lo → S → R W} (ha : SimE C md a ma) (hb : SimE C md b mb) : SimE C md (eOrV a b) (CC.eOrV ma mb) := fun s l vl E K B Fs r => by
  refine (ha s l vl E K B Fs r).bind r.bk fun x v w s2 E2 F Fs2 k2 r2 d f => ?_
  cases x with
  | bl c =>
    obtain rfl := d.is_bl
    cases c with
    | false => exact (hb s2 l v E2 K B Fs2 r2).then k2
    | true => exact ⟨_, s2, E2, [], Fs2, rfl, k2, r2, d_bl, .nil⟩
  | _ => trivial
theorem sim_andT {a b : VL → RU Bool} {ma mb : Lo → S → R Bool} (ha : SimT C md a ma) (hb : SimT C md b mb) : SimT C md (tAndT a b) (CC.tAndT ma mb) := fun s l vl E K B Fs r =>
  relB_fr r.bk (ha s l vl E K B Fs r) fun c v s2 E2 Fs2 k2 r2 => by
    cases c with
    | true => exact (hb s2 l v E2 K B Fs2 r2).then k2
    | false => exact ⟨_, s2, E2, [], Fs2, rfl, k2, r2, ⟨rfl, rfl⟩, .nil⟩
theorem sim_orT {a b : VL → RU Bool} {ma mb : Lo → S → R Bool} (ha : SimT C md a ma) (hb : SimT C md b mb) : SimT C md (tOrT a b) (CC.tOrT ma mb) := fun s l vl E K B Fs r =>
  relB_fr r.bk (ha s l vl E K B Fs r) fun c v s2 E2 Fs2 k2 r2 => by
    cases c with
    | false => exact (hb s2 l v E2 K B Fs2 r2).then k2
    | true => exact ⟨_, s2, E2, [], Fs2, rfl, k2, r2, ⟨rfl, rfl⟩, .nil⟩
theorem sim_notT {a : VL → RU Bool} {ma : Lo → S → R Bool} (ha : SimT C md a ma) : SimT C md (tNotT a) (CC.tNotT ma) := fun s l vl E K B Fs r =>
  relB_fr r.bk (ha s l vl E K B Fs r) fun c v s2 E2 Fs2 k2 r2 => ⟨_, s2, E2, [], Fs2, rfl, k2, r2, ⟨rfl, rfl⟩, .nil⟩
theorem sim_true : SimT C md tTrue CC.tTrue := fun s l vl E K B Fs r => ⟨_, s, E, [], Fs, rfl, .rfl', r, ⟨rfl, rfl⟩, .nil⟩
/-- the slots as they are read without being written -/
theorem SL.lend (r : SL C true c E K B vl l Fs) : SL C false c E (fun n => K n ∨ ∃ i, n ∈ Fs i) (fun n => B n ∨ ∃ i, n ∈ Fs i) vl l Fs :=
  ⟨r.len, fun i u h => by
    obtain ⟨w, h1, h2⟩ := r.has i u h
    exact ⟨w, h1, h2.in fun a h => .inl h⟩, fun m => (nomatch m), fun _ i a h => .inr ⟨i, h⟩, r.ex, fun u w h => (r.ax u w h).in fun a h => .inl h, r.mpk, r.ev, fun n h => h.imp (r.bk n) id, fun n h => h.elim (r.ka n) fun ⟨i, h⟩ => r.ex i n h⟩
theorem SL.back {c1 : Cf} {E1 : Pr} (r : SL C true c E K B vl l Fs) (k : Keep c E (fun n => K n ∨ ∃ i, n ∈ Fs i) c1 E1) (ev : ∀ n, c1 n = none → E1 n) : SL C true c1 E1 K B vl l Fs :=
  ⟨r.len, fun i u h => by
    obtain ⟨w, h1, h2⟩ := r.has i u h
    exact ⟨w, h1, h2.mono k (fun n h => .inl (r.bk n h)) fun a m => .inr ⟨i, m⟩⟩, r.own, fun m => (nomatch m), fun i a h => ⟨k.al a (r.ex i a h).1, (k.kp a (.inr ⟨i, h⟩)).2 (r.ex i a h).2⟩, fun u w h => (r.ax u w h).mono k (fun n h => .inl (r.bk n h)) no, r.mpk, ev, r.bk, fun n h => ⟨k.al n (r.ka n h).1, (k.kp n (.inl h)).2 (r.ka n h).2⟩⟩
theorem sim_vB {a : VL → RU U} {ma : Lo → S → R W} (ha : SimE C false a ma) : SimE C true (vB a) ma := fun s l vl E K B Fs r => by
  have h := ha s l vl E _ _ Fs r.lend
  unfold vB
  cases e : a vl with
  | bad => trivial
  | exc k u v =>
    rw [e] at h
    obtain ⟨w, s2, E2, Fs2, e2, k2, r2, d⟩ := h
    exact ⟨w, s2, E2, Fs, e2, k2.weak fun n h => .inl h, r.back k2 r2.ev, d⟩
  | ok u v =>
    rw [e] at h
    obtain ⟨w, s2, E2, F, Fs2, e2, k2, r2, d, f⟩ := h
    show Aft C true _ E K B l D (if noB u then _ else _) _
    split
    · rename_i q
      exact ⟨w, s2, E2, F, Fs, e2, k2.weak fun n h => .inl h, r.back k2 r2.ev, d.noB q, f.1, fun a m => ⟨fun h => (f.2 a m).1 (.inl h), fun i h => (f.2 a m).1 (.inr ⟨i, h⟩)⟩⟩
    · trivial
theorem sim_tB {a : VL → RU Bool} {ma : Lo → S → R Bool} (ha : SimT C false a ma) : SimT C true (tB a) ma := fun s l vl E K B Fs r => by
  have h := ha s l vl E _ _ Fs r.lend
  unfold tB
  cases e : a vl with
  | bad => trivial
  | exc k u v =>
    rw [e] at h
    obtain ⟨w, s2, E2, Fs2, e2, k2, r2, d⟩ := h
    exact ⟨w, s2, E2, Fs, e2, k2.weak fun n h => .inl h, r.back k2 r2.ev, d⟩
  | ok u v =>
    rw [e] at h
    obtain ⟨w, s2, E2, F, Fs2, e2, k2, r2, d, f⟩ := h
    exact ⟨w, s2, E2, F, Fs, e2, k2.weak fun n h => .inl h, r.back k2 r2.ev, d, f.1, fun a m => (by rw [d.2] at m; cases m)⟩
end
end CV
set_option Elab.async false
set_option linter.all false
set_option maxRecDepth 100000
/-! CV3: statements on values -/
namespace CV
open PySem PySem.Spec PyProof.Rows L2
open CC (W Ob S Hh Lo R RS rd wr al nxt)

def nB : Pr := fun _ => False
def AftS (C : Ct) (c : Cf) (E K B : Pr) (r : RSU) (r' : RS) : Prop :=
  match r with
  | .nx v => ∃ l s E' Fs, r' = .nx l s ∧ Keep c E K (rd C.p s) E' ∧ SL C true (rd C.p s) E' K B v l Fs
  | .brk v => ∃ l s E' Fs, r' = .brk l s ∧ Keep c E K (rd C.p s) E' ∧ SL C true (rd C.p s) E' K B v l Fs
  | .ct v => ∃ l s E' Fs, r' = .ct l s ∧ Keep c E K (rd C.p s) E' ∧ SL C true (rd C.p s) E' K B v l Fs
  | .ret u v => ∃ w l s E' F Fs, r' = .ret w s ∧ Keep c E K (rd C.p s) E' ∧ SL C true (rd C.p s) E' K B v l Fs ∧ D (rd C.p s) E' nB u w F ∧ Fr F K Fs
  | .exc k u v => ∃ w l s E' Fs, r' = .exc k w l s ∧ Keep c E K (rd C.p s) E' ∧ SL C true (rd C.p s) E' K B v l Fs ∧ D (rd C.p s) E' nB u w []
  | .bad => True
def SimS (C : Ct) (vm : VL → RSU) (m : Lo → S → RS) : Prop :=
  ∀ s l vl E K B Fs, SL C true (rd C.p s) E K B vl l Fs → AftS C (rd C.p s) E K B (vm vl) (m l s)
def SimG (C : Ct) (g : U → VL → Option VL) (m : W → Lo → S → CC.OG) : Prop :=
  ∀ s l vl E K B Fs u w F, SL C true (rd C.p s) E K B vl l Fs → D (rd C.p s) E B u w F → Fr F K Fs → match g u vl with
    | some v => ∃ l' s' E' Fs', m w l s = some (l', s') ∧ Keep (rd C.p s) E K (rd C.p s') E' ∧ SL C true (rd C.p s') E' K B v l' Fs'
    | none => True
def SimGs (C : Ct) (g : List U → VL → Option VL) (m : List W → Lo → S → CC.OG) : Prop :=
  ∀ s l vl E K B Fs us ws, SL C true (rd C.p s) E K B vl l Fs → Ds (rd C.p s) E B us ws [] → match g us vl with
    | some v => ∃ l' s' E' Fs', m ws l s = some (l', s') ∧ Keep (rd C.p s) E K (rd C.p s') E' ∧ SL C true (rd C.p s') E' K B v l' Fs'
    | none => True
section
variable {C : Ct} {c c1 : Cf} {E E1 K B : Pr}
theorem AftS.then {r : RSU} {r' : RS} (k : Keep c E K c1 E1) (h : AftS C c1 E1 K B r r') : AftS C c E K B r r' := by
  cases r with
  | nx v => obtain ⟨l, s, E2, Fs, e, x, y⟩ := h; exact ⟨l, s, E2, Fs, e, k.trans x, y⟩
  | brk v => obtain ⟨l, s, E2, Fs, e, x, y⟩ := h; exact ⟨l, s, E2, Fs, e, k.trans x, y⟩
  | ct v => obtain ⟨l, s, E2, Fs, e, x, y⟩ := h; exact ⟨l, s, E2, Fs, e, k.trans x, y⟩
  | ret u v => obtain ⟨w, l, s, E2, F, Fs, e, x, y⟩ := h; exact ⟨w, l, s, E2, F, Fs, e, k.trans x, y⟩
  | exc q u v => obtain ⟨w, l, s, E2, Fs, e, x, y⟩ := h; exact ⟨w, l, s, E2, Fs, e, k.trans x, y⟩
  | bad => trivial
end
/-! ### words -/
def RU.toS {α : Type} (r : RU α) (k : α → VL → RSU) : RSU := match r with
  | .ok a v => k a v
  | .exc c u v => .exc c u v
  | .bad => .bad
def sNx : VL → RSU := fun v => .nx v
def sSeq (m k : VL → RSU) : VL → RSU := fun v => match m v with
  | .nx v1 => fV v1 k
  | r => r
def sEx (me : VL → RU U) : VL → RSU := fun v => (me v).toS fun _ v1 => .nx v1
def sRet (me : VL → RU U) : VL → RSU := fun v => (me v).toS fun u v1 => if noB u then .ret u v1 else .bad
def sRetN : VL → RSU := fun v => .ret .non v
def sBrk : VL → RSU := fun v => .brk v
def sCt : VL → RSU := fun v => .ct v
def nxO : Option VL → RSU
  | some v => .nx v
  | none => .bad
def sAsg (g : U → VL → Option VL) (me : VL → RU U) : VL → RSU := fun v => (me v).toS fun u v1 => nxO (g u v1)
/-- a name that may be written through -/
def gNm (i : Nat) : U → VL → Option VL := fun u v => some (v.set i (some u))
/-- a name that is only read -/
def gNf (i : Nat) : U → VL → Option VL := fun u v => some (v.set i (some (frz u)))
def sIf (mt : VL → RU Bool) (ma mb : VL → RSU) : VL → RSU := fun v => match mt v with
  | .ok true v1 => ma v1
  | .ok false v1 => mb v1
  | .exc c u v1 => .exc c u v1
  | .bad => .bad
def sAug (f : U → U → Option U) (i : Nat) (me : VL → RU U) : VL → RSU := fun v => (eVarN i v).toS fun x v0 => (me v0).toS fun y v1 => match f x y with
  | some z => .nx (v1.set i (some z))
  | none => .bad
def sPar2 (g1 g2 : U → VL → Option VL) (mr : VL → RU (List U)) : VL → RSU := fun v => match mr v with
  | .ok [x, y] v1 => (match g1 x v1 with
    | some v2 => nxO (g2 y v2)
    | none => .bad)
  | .exc c u v1 => .exc c u v1
  | _ => .bad
def sPar3 (g1 g2 g3 : U → VL → Option VL) (mr : VL → RU (List U)) : VL → RSU := fun v => match mr v with
  | .ok [x, y, z] v1 => (match g1 x v1 with
    | some v2 => (match g2 y v2 with
      | some v3 => nxO (g3 z v3)
      | none => .bad)
    | none => .bad)
  | .exc c u v1 => .exc c u v1
  | _ => .bad
def gsNil : List U → VL → Option VL := fun us v => match us with
  | [] => some v
  | _ => none
def gsCons (g : U → VL → Option VL) (r : List U → VL → Option VL) : List U → VL → Option VL := fun us v => match us with
  | u :: us' => (match g u v with
    | some v1 => r us' v1
    | none => none)
  | _ => none
def gTupT (n : Nat) (r : List U → VL → Option VL) : U → VL → Option VL := fun u v => match u with
  | .tup us => if us.length = n then r us v else none
  | _ => none
def sRaise (k : Nat) (me : VL → RU U) : VL → RSU := fun v => (me v).toS fun u v1 => if noB u then .exc k (frz u) v1 else .bad
def whV (t : VL → RU Bool) (b : VL → RSU) : Nat → VL → RSU
  | 0, _ => .bad
  | n + 1, v => match t v with
    | .bad => .bad
    | .exc c u v1 => .exc c u v1
    | .ok false v1 => .nx v1
    | .ok true v1 => match b v1 with
      | .nx v2 => fV v2 (whV t b n)
      | .ct v2 => fV v2 (whV t b n)
      | .brk v2 => .nx v2
      | r => r
def sWh (n : Nat) (t : VL → RU Bool) (b : VL → RSU) : VL → RSU := whV t b n

section
variable {C : Ct} {c c1 : Cf} {E E1 K K1 B : Pr} {l : Lo} {vl : VL} {s : S} {Fs : Nat → List Nat}
def RtoS {α : Type} (l : Lo) (r : R α) (k : α → S → RS) : RS := match r with
  | .ok w s => k w s
  | .exc c w s => .exc c w l s
  | .bad => .bad
theorem AftS.val {α α' : Type} {rel : Rl α' α} {r : RU α'} {r' : R α} {k : α' → VL → RSU} {k' : α → S → RS} (h : Aft C true c E K B l rel r r')
    (hk : ∀ u v w s E2 F Fs, Keep c E K (rd C.p s) E2 → SL C true (rd C.p s) E2 K B v l Fs → rel (rd C.p s) E2 B u w F → Fr F K Fs → AftS C c E K B (k u v) (k' w s)) : AftS C c E K B (r.toS k) (RtoS l r' k') := by
  cases r with
  | ok u v =>
    obtain ⟨w, s, E2, F, Fs, e, x, y, z, f⟩ := h
    subst e
    exact hk u v w s E2 F Fs x y z f
  | exc q u v =>
    obtain ⟨w, s, E2, Fs, e, x, y, z⟩ := h
    subst e
    exact ⟨w, l, s, E2, Fs, rfl, x, y, z⟩
  | bad => trivial
theorem toS_eq {l : Lo} {r : R W} {k : W → S → RS} : CC.R.toS l r k = RtoS l r k := by cases r <;> rfl
theorem sim_nx : SimS C sNx CC.sNx := fun s l vl E K B Fs r => ⟨l, s, E, Fs, rfl, .rfl', r⟩
theorem sim_brk : SimS C sBrk CC.sBrk := fun s l vl E K B Fs r => ⟨l, s, E, Fs, rfl, .rfl', r⟩
theorem sim_ct : SimS C sCt CC.sCt := fun s l vl E K B Fs r => ⟨l, s, E, Fs, rfl, .rfl', r⟩
theorem sim_retN : SimS C sRetN CC.sRetN := fun s l vl E K B Fs r => ⟨.non, l, s, E, [], Fs, rfl, .rfl', r, d_non, .nil⟩
theorem sim_seq {a b : VL → RSU} {ma mb : Lo → S → RS} (ha : SimS C a ma) (hb : SimS C b mb) : SimS C (sSeq a b) (CC.sSeq ma mb) := fun s l vl E K B Fs r => by
  have h := ha s l vl E K B Fs r
  unfold sSeq CC.sSeq
  cases e : a vl with
  | nx v =>
    rw [e] at h
    obtain ⟨l1, s1, E1, Fs1, e2, k1, r1⟩ := h
    rw [e2]
    dsimp only
    rw [fV_eq]
    exact (hb s1 l1 v E1 K B Fs1 r1).then k1
  | brk v => rw [e] at h; obtain ⟨l1, s1, E1, Fs1, e2, h⟩ := h; rw [e2]; exact ⟨l1, s1, E1, Fs1, rfl, h⟩
  | ct v => rw [e] at h; obtain ⟨l1, s1, E1, Fs1, e2, h⟩ := h; rw [e2]; exact ⟨l1, s1, E1, Fs1, rfl, h⟩
  | ret u v => rw [e] at h; obtain ⟨w, l1, s1, E1, F, Fs1, e2, h⟩ := h; rw [e2]; exact ⟨w, l1, s1, E1, F, Fs1, rfl, h⟩
  | exc k u v => rw [e] at h; obtain ⟨w, l1, s1, E1, Fs1, e2, h⟩ := h; rw [e2]; exact ⟨w, l1, s1, E1, Fs1, rfl, h⟩
  | bad => trivial
theorem sim_ex {a : VL → RU U} {ma : Lo → S → R W} (ha : SimE C true a ma) : SimS C (sEx a) (CC.sEx ma) := fun s l vl E K B Fs r => by
  unfold CC.sEx
  rw [toS_eq]
  exact AftS.val (rel := D) (ha s l vl E K B Fs r) fun u v w s2 E2 F Fs2 k2 r2 d f => ⟨l, s2, E2, Fs2, rfl, k2, r2⟩
theorem sim_ret {a : VL → RU U} {ma : Lo → S → R W} (ha : SimE C true a ma) : SimS C (sRet a) (CC.sRet ma) := fun s l vl E K B Fs r => by
  unfold CC.sRet
  rw [toS_eq]
  refine AftS.val (rel := D) (ha s l vl E K B Fs r) fun u v w s2 E2 F Fs2 k2 r2 d f => ?_
  split
  · rename_i q
    exact ⟨w, l, s2, E2, F, Fs2, rfl, k2, r2, d.noB q, f⟩
  · trivial
theorem sim_raise {k : Nat} {a : VL → RU U} {ma : Lo → S → R W} (ha : SimE C true a ma) : SimS C (sRaise k a) (CC.sRaise k ma) := fun s l vl E K B Fs r => by
  unfold CC.sRaise
  rw [toS_eq]
  refine AftS.val (rel := D) (ha s l vl E K B Fs r) fun u v w s2 E2 F Fs2 k2 r2 d f => ?_
  split
  · rename_i q
    exact ⟨w, l, s2, dn E2 F, Fs2, rfl, k2.trans (.dn fun a m => (f.2 a m).1), r2.dn f.2 d.alive, d.frz q⟩
  · trivial
theorem sim_sif {t : VL → RU Bool} {a b : VL → RSU} {mt : Lo → S → R Bool} {ma mb : Lo → S → RS} (ht : SimT C true t mt) (ha : SimS C a ma) (hb : SimS C b mb) : SimS C (sIf t a b) (CC.sIf mt ma mb) := fun s l vl E K B Fs r => by
  have h := ht s l vl E K B Fs r
  unfold sIf CC.sIf
  cases e : t vl with
  | ok q v =>
    rw [e] at h
    obtain ⟨w, s2, E2, F, Fs2, e2, k2, r2, d, f⟩ := h
    obtain ⟨rfl, _⟩ := d
    rw [e2]
    cases q with
    | true => exact (ha s2 l v E2 K B Fs2 r2).then k2
    | false => exact (hb s2 l v E2 K B Fs2 r2).then k2
  | exc k u v =>
    rw [e] at h
    obtain ⟨w, s2, E2, Fs2, e2, x, y, z⟩ := h
    rw [e2]
    exact ⟨w, l, s2, E2, Fs2, rfl, x, y, z⟩
  | bad => trivial
/-! targets -/
theorem sim_nm (i : Nat) (hm : C.mp = none ∨ i ≠ C.mi) : SimG C (gNm i) (CC.gNm i) := fun s l vl E K B Fs u w F r d f =>
  ⟨l.set i (some w), s, E, upF Fs i F, rfl, .rfl', r.put i (some u) w _ (by simp) (fun j h => List.getElem?_set_ne (Ne.symm h)) (fun u' e hi => by cases e; exact ⟨List.getElem?_set_self (by rw [← r.len]; exact hi), d⟩)
    (fun w' e => by
      rcases hm with hm | hm
      · rw [hm] at e; cases e
      · rw [List.getElem?_set_ne hm]; exact r.mpk w' e) f.1 fun a m => ⟨d.alive a m, d.own a m, fun _ => ⟨(f.2 a m).1, fun j _ => (f.2 a m).2 j⟩, fun z => nomatch z⟩⟩
theorem noB_frz {u : U} (h : noB u = false) : frz u = u := by
  cases u with
  | lst z us => cases z <;> first | rfl | cases h
  | dct z us => cases z <;> first | rfl | cases h
  | dtt z us => cases z <;> first | rfl | cases h
  | ins z n us => cases z <;> first | rfl | cases h
  | _ => rfl
/-- a value given up, also a lent one -/
theorem D.frz' {c : Cf} {E B : Pr} {u : U} {w : W} {F : List Nat} (d : D c E B u w F) : D c (dn E F) B (CV.frz u) w [] := by
  cases q : CV.noB u with
  | true => exact d.frz q
  | false =>
    rw [noB_frz q]
    have : F = [] := d.noO (by
      cases u with
      | lst z us => cases z <;> first | rfl | cases q
      | dct z us => cases z <;> first | rfl | cases q
      | dtt z us => cases z <;> first | rfl | cases q
      | ins z n us => cases z <;> first | rfl | cases q
      | _ => rfl)
    subst this
    exact d.less no
theorem sim_nf (i : Nat) (hm : C.mp = none ∨ i ≠ C.mi) : SimG C (gNf i) (CC.gNm i) := fun s l vl E K B Fs u w F r d f => by
  have r2 := r.dn f.2 d.alive
  obtain ⟨l', s', E', Fs', e, k, r3⟩ := sim_nm i hm s l vl _ K B Fs (frz u) w [] r2 d.frz' .nil
  exact ⟨l', s', E', Fs', e, (Keep.dn fun a m => (f.2 a m).1).trans k, r3⟩
theorem Ds.nil_of {us : List U} {ws : List W} {F : List Nat} (d : Ds c E B us ws F) : F = [] → (us = [] ∧ ws = []) ∨ ∃ u w us' ws', us = u :: us' ∧ ws = w :: ws' ∧ D c E B u w [] ∧ Ds c E B us' ws' [] := fun h => by
  cases d with
  | nil => exact .inl ⟨rfl, rfl⟩
  | @cons u w us ws F F' d r =>
    have := List.append_eq_nil_iff.mp h
    rw [this.1] at d
    rw [this.2] at r
    exact .inr ⟨u, w, us, ws, rfl, rfl, d, r⟩
theorem sim_gnil : SimGs C gsNil CC.gsNil := fun s l vl E K B Fs us ws r d => by
  rcases d.nil_of rfl with ⟨rfl, rfl⟩ | ⟨u, w, us', ws', rfl, rfl, d1, d2⟩
  · exact ⟨l, s, E, Fs, rfl, .rfl', r⟩
  · trivial
theorem sim_gcons {g : U → VL → Option VL} {m : W → Lo → S → CC.OG} {gs : List U → VL → Option VL} {ms : List W → Lo → S → CC.OG} (h1 : SimG C g m) (h2 : SimGs C gs ms) : SimGs C (gsCons g gs) (CC.gsCons m ms) := fun s l vl E K B Fs us ws r d => by
  rcases d.nil_of rfl with ⟨rfl, rfl⟩ | ⟨u, w, us', ws', rfl, rfl, d1, d2⟩
  · trivial
  · have q := h1 s l vl E K B Fs u w [] r d1 .nil
    unfold gsCons CC.gsCons
    dsimp only
    cases e : g u vl with
    | none => trivial
    | some v =>
      rw [e] at q
      obtain ⟨l1, s1, E1, Fs1, e1, k1, r1⟩ := q
      rw [e1]
      have q2 := h2 s1 l1 v E1 K B Fs1 us' ws' r1 (d2.mono k1 r.bk no)
      dsimp only
      cases e2 : gs us' v with
      | none => trivial
      | some v2 =>
        rw [e2] at q2
        obtain ⟨l2, s2, E2, Fs2, e3, k2, r2⟩ := q2
        exact ⟨l2, s2, E2, Fs2, e3, k1.trans k2, r2⟩
theorem D.is_tup {us : List U} {w : W} {F : List Nat} (h : D c E B (.tup us) w F) : F = [] ∧ ∃ ws, w = .tup ws ∧ Ds c E B us ws [] := by
  obtain ⟨T, Z, d, h1, h2, h3⟩ := h
  cases d with
  | z d => cases d with
    | tup r => exact ⟨rfl, _, rfl, r.to no h2⟩
    | own _ k _ => cases k
    | shr _ k _ => cases k
  | b _ k _ => cases k
theorem sim_gtup {n : Nat} {gs : List U → VL → Option VL} {ms : List W → Lo → S → CC.OG} (h : SimGs C gs ms) : SimG C (gTupT n gs) (CC.gTupT n ms) := fun s l vl E K B Fs u w F r d f => by
  cases u with
  | tup us =>
    obtain ⟨rfl, ws, rfl, ds⟩ := d.is_tup
    unfold gTupT CC.gTupT
    dsimp only
    rw [← ds.len]
    by_cases q : us.length = n
    · rw [if_pos q, if_pos q]
      exact h s l vl E K B Fs us ws r ds
    · rw [if_neg q]
      trivial
  | _ => trivial
theorem sim_asg {g : U → VL → Option VL} {m : W → Lo → S → CC.OG} {a : VL → RU U} {ma : Lo → S → R W} (hg : SimG C g m) (ha : SimE C true a ma) : SimS C (sAsg g a) (CC.sAsg m ma) := fun s l vl E K B Fs r => by
  unfold CC.sAsg
  rw [toS_eq]
  refine AftS.val (rel := D) (ha s l vl E K B Fs r) fun u v w s2 E2 F Fs2 k2 r2 d f => ?_
  have q := hg s2 l v E2 K B Fs2 u w F r2 d f
  cases e : g u v with
  | none => trivial
  | some v2 =>
    rw [e] at q
    obtain ⟨l3, s3, E3, Fs3, e3, k3, r3⟩ := q
    rw [e3]
    exact ⟨l3, s3, E3, Fs3, rfl, k2.trans k3, r3⟩
theorem Ds.inv {u : U} {w : W} {us : List U} {ws : List W} {F : List Nat} (h : Ds c E B (u :: us) (w :: ws) F) : ∃ F1 F2, F = F1 ++ F2 ∧ D c E B u w F1 ∧ Ds c E B us ws F2 := by
  cases h with
  | cons d r => exact ⟨_, _, rfl, d, r⟩
theorem Ds.inv0 {F : List Nat} (h : Ds c E B [] [] F) : F = [] := by
  cases h; rfl
theorem nm_of {i : Nat} {g : U → VL → Option VL} (h : SimG C g (CC.gNm i)) {s : S} {l : Lo} {vl v : VL} {u : U} {w : W} {F : List Nat} (r : SL C true (rd C.p s) E K B vl l Fs) (d : D (rd C.p s) E B u w F) (f : Fr F K Fs) (e : g u vl = some v) : ∃ E' Fs', Keep (rd C.p s) E K (rd C.p s) E' ∧ SL C true (rd C.p s) E' K B v (l.set i (some w)) Fs' := by
  have q := h s l vl E K B Fs u w F r d f
  rw [e] at q
  obtain ⟨l', s', E', Fs', e2, k, r2⟩ := q
  cases e2
  exact ⟨E', Fs', k, r2⟩
/-- the rest of the values while the first one is stored -/
theorem nm_rest {i : Nat} {g : U → VL → Option VL} (h : SimG C g (CC.gNm i)) {s : S} {l : Lo} {vl v : VL} {u : U} {w : W} {F : List Nat} {us : List U} {ws : List W} {F2 : List Nat} (r : SL C true (rd C.p s) E K B vl l Fs) (hb : ∀ n, B n → K n) (d : D (rd C.p s) E B u w F) (d2 : Ds (rd C.p s) E B us ws F2) (f : Fr (F ++ F2) K Fs) (e : g u vl = some v) :
    ∃ E' Fs', Keep (rd C.p s) E K (rd C.p s) E' ∧ SL C true (rd C.p s) E' K B v (l.set i (some w)) Fs' ∧ Ds (rd C.p s) E' B us ws F2 ∧ Fr F2 K Fs' := by
  have nd := List.nodup_append.mp f.1
  have f2 : Fr F2 K Fs := ⟨nd.2.1, fun a m => f.2 a (List.mem_append_right _ m)⟩
  obtain ⟨E', Fs', k, r2⟩ := nm_of h (r.grow f2 (fun a m => ⟨d2.alive a m, d2.own a m⟩)) d ⟨nd.1, fun a m => ⟨fun z => z.elim (f.2 a (List.mem_append_left _ m)).1 fun z => nd.2.2 a m a z rfl, (f.2 a (List.mem_append_left _ m)).2⟩⟩ e
  exact ⟨E', Fs', k.weak fun n h => .inl h, r2.weak (fun n h => .inl h) hb, d2.mono k (fun n h => .inl (hb n h)) fun a m => .inr m, nd.2.1, fun a m => ⟨(f2.2 a m).1, fun j => r2.sep hb m (f2.2 a m).1 j⟩⟩
theorem sim_par2 {i j : Nat} {g1 g2 : U → VL → Option VL} {a : VL → RU (List U)} {ma : Lo → S → R (List W)} (h1 : SimG C g1 (CC.gNm i)) (h2 : SimG C g2 (CC.gNm j)) (ha : SimA C true a ma) : SimS C (sPar2 g1 g2 a) (CC.sPar2 i j ma) := fun s l vl E K B Fs r => by
  have h := ha s l vl E K B Fs r
  unfold sPar2 CC.sPar2
  cases e : a vl with
  | bad => trivial
  | exc k u v =>
    rw [e] at h
    obtain ⟨w, s2, E2, Fs2, e2, x, y, z⟩ := h
    rw [e2]
    exact ⟨w, l, s2, E2, Fs2, rfl, x, y, z⟩
  | ok us v =>
    rw [e] at h
    obtain ⟨ws, s2, E2, F, Fs2, e2, k2, r2, d, f⟩ := h
    rw [e2]
    match us, ws, F, d, f with
    | [x, y], _, _, .cons d1 (.cons d2 .nil), f =>
      dsimp only
      cases e3 : g1 x v with
      | none => trivial
      | some v1 =>
        obtain ⟨E3, Fs3, k3, r3, ds, f3⟩ := nm_rest h1 r2 r.bk d1 (.cons d2 .nil) f e3
        dsimp only
        cases e4 : g2 y v1 with
        | none => trivial
        | some v2 =>
            obtain ⟨A1, A2, e5, d2, q⟩ := ds.inv
            obtain rfl := q.inv0
            rw [e5, List.append_nil] at f3
            obtain ⟨E4, Fs4, k4, r4⟩ := nm_of h2 r3 d2 f3 e4
            exact ⟨_, s2, E4, Fs4, rfl, (k2.trans k3).trans k4, r4⟩
    | [], _, _, _, _ => trivial
    | [_], _, _, _, _ => trivial
    | _ :: _ :: _ :: _, _, _, _, _ => trivial
theorem sim_par3 {i j n : Nat} {g1 g2 g3 : U → VL → Option VL} {a : VL → RU (List U)} {ma : Lo → S → R (List W)} (h1 : SimG C g1 (CC.gNm i)) (h2 : SimG C g2 (CC.gNm j)) (h3 : SimG C g3 (CC.gNm n)) (ha : SimA C true a ma) : SimS C (sPar3 g1 g2 g3 a) (CC.sPar3 i j n ma) := fun s l vl E K B Fs r => by
  have h := ha s l vl E K B Fs r
  unfold sPar3 CC.sPar3
  cases e : a vl with
  | bad => trivial
  | exc k u v =>
    rw [e] at h
    obtain ⟨w, s2, E2, Fs2, e2, x, y, z⟩ := h
    rw [e2]
    exact ⟨w, l, s2, E2, Fs2, rfl, x, y, z⟩
  | ok us v =>
    rw [e] at h
    obtain ⟨ws, s2, E2, F, Fs2, e2, k2, r2, d, f⟩ := h
    rw [e2]
    match us, ws, F, d, f with
    | [x, y, z], _, _, .cons d1 (.cons d2 (.cons d3 .nil)), f =>
      dsimp only
      cases e3 : g1 x v with
      | none => trivial
      | some v1 =>
        obtain ⟨E3, Fs3, k3, r3, ds, f3⟩ := nm_rest h1 r2 r.bk d1 (.cons d2 (.cons d3 .nil)) f e3
        dsimp only
        cases e4 : g2 y v1 with
        | none => trivial
        | some v2 =>
            obtain ⟨A1, A2, e6, d2, q⟩ := ds.inv
            rw [e6] at f3
            obtain ⟨E4, Fs4, k4, r4, ds4, f4⟩ := nm_rest h2 r3 r.bk d2 q f3 e4
            dsimp only
            cases e5 : g3 z v2 with
            | none => trivial
            | some v3 =>
                obtain ⟨A3, A4, e7, d3, q2⟩ := ds4.inv
                obtain rfl := q2.inv0
                rw [e7] at f4
                rw [List.append_nil] at f4
                obtain ⟨E5, Fs5, k5, r5⟩ := nm_of h3 r4 d3 f4 e5
                exact ⟨_, s2, E5, Fs5, rfl, ((k2.trans k3).trans k4).trans k5, r5⟩
    | [], _, _, _, _ => trivial
    | [_], _, _, _, _ => trivial
    | [_, _], _, _, _, _ => trivial
    | _ :: _ :: _ :: _ :: _, _, _, _, _ => trivial
theorem sim_while {n : Nat} {t : VL → RU Bool} {b : VL → RSU} {mt : Lo → S → R Bool} {mb : Lo → S → RS} (ht : SimT C true t mt) (hb : SimS C b mb) : SimS C (sWh n t b) (CC.sWh n mt mb) := by
  unfold sWh CC.sWh
  induction n with
  | zero => exact fun s l vl E K B Fs r => trivial
  | succ n ih =>
    intro s l vl E K B Fs r
    have h := ht s l vl E K B Fs r
    unfold whV CC.whI
    cases e : t vl with
    | bad => trivial
    | exc k u v =>
      rw [e] at h
      obtain ⟨w, s2, E2, Fs2, e2, x, y, z⟩ := h
      rw [e2]
      exact ⟨w, l, s2, E2, Fs2, rfl, x, y, z⟩
    | ok q v =>
      rw [e] at h
      obtain ⟨w, s2, E2, F, Fs2, e2, k2, r2, d, f⟩ := h
      obtain ⟨rfl, _⟩ := d
      rw [e2]
      cases q with
      | false => exact ⟨l, s2, E2, Fs2, rfl, k2, r2⟩
      | true =>
        dsimp only
        have h2 := hb s2 l v E2 K B Fs2 r2
        cases e3 : b v with
        | nx v2 =>
          rw [e3] at h2
          obtain ⟨l3, s3, E3, Fs3, e4, k3, r3⟩ := h2
          rw [e4]
          dsimp only
          rw [fV_eq]
          exact (ih s3 l3 v2 E3 K B Fs3 r3).then (k2.trans k3)
        | ct v2 =>
          rw [e3] at h2
          obtain ⟨l3, s3, E3, Fs3, e4, k3, r3⟩ := h2
          rw [e4]
          dsimp only
          rw [fV_eq]
          exact (ih s3 l3 v2 E3 K B Fs3 r3).then (k2.trans k3)
        | brk v2 =>
          rw [e3] at h2
          obtain ⟨l3, s3, E3, Fs3, e4, k3, r3⟩ := h2
          rw [e4]
          exact ⟨l3, s3, E3, Fs3, rfl, k2.trans k3, r3⟩
        | ret u v2 =>
          rw [e3] at h2
          obtain ⟨w, l3, s3, E3, F3, Fs3, e4, k3, r3⟩ := h2
          rw [e4]
          exact ⟨w, l3, s3, E3, F3, Fs3, rfl, k2.trans k3, r3⟩
        | exc q u v2 =>
          rw [e3] at h2
          obtain ⟨w, l3, s3, E3, Fs3, e4, k3, r3⟩ := h2
          rw [e4]
          exact ⟨w, l3, s3, E3, Fs3, rfl, k2.trans k3, r3⟩
        | bad => trivial
end
end CV
set_option Elab.async false
set_option linter.all false
set_option maxRecDepth 100000
/-! CV4: what is walked; for; comprehensions -/
namespace CV
open PySem PySem.Spec PyProof.Rows L2
open CC (W Ob S Hh Lo R RS rd wr al nxt ItD)

section
variable {c : Cf} {E B : Pr} {u : U} {w : W} {us : List U} {ws : List W} {F T : List Nat}
theorem D0s.frzd (h : D0s c us ws F T) (h1 : ∀ a ∈ F, ¬ E a) (h2 : ∀ a ∈ T, ¬ E a) : Ds c E B (us.map frz) ws [] := by
  induction us generalizing ws F T with
  | nil => cases h; exact .nil
  | cons u us ih =>
    cases h with
    | cons d r =>
      obtain ⟨T', d', t⟩ := d.frz
      exact .cons (F := []) ⟨T', [], .z d', no, fun a m => (t a m).elim (fun m => h1 a (List.mem_append_left _ m)) fun m => h2 a (List.mem_append_left _ m), no⟩ (ih r (fun a m => h1 a (List.mem_append_right _ m)) fun a m => h2 a (List.mem_append_right _ m))
theorem D0s.bord (h : D0s c us ws F T) (h1 : ∀ a ∈ F, B a) (h2 : ∀ a ∈ T, ¬ E a) : Ds c E B (us.map bor) ws [] := by
  induction us generalizing ws F T with
  | nil => cases h; exact .nil
  | cons u us ih =>
    cases h with
    | cons d r =>
      obtain ⟨T', Z', d', t, z⟩ := d.bor
      exact .cons (F := []) ⟨T', Z', d', no, fun a m => h2 a (List.mem_append_left _ (t a m)), fun a m => h1 a (List.mem_append_left _ (z a m))⟩ (ih r (fun a m => h1 a (List.mem_append_right _ m)) fun a m => h2 a (List.mem_append_right _ m))
/-- what the flag says of the cells -/
def Fg (E B : Pr) : Fl → Nat → List Nat → List Nat → List Nat → Prop
  | .o, n, F0, T0, F => F = n :: F0 ∧ (∀ a ∈ n :: F0, E a) ∧ ∀ a ∈ T0, ¬ E a
  | .s, n, F0, T0, F => F = [] ∧ ¬ E n ∧ (∀ a ∈ F0, ¬ E a) ∧ ∀ a ∈ T0, ¬ E a
  | .b, n, F0, T0, F => F = [] ∧ (∀ a ∈ n :: F0, B a) ∧ ∀ a ∈ T0, ¬ E a
def Nd (c : Cf) (E B : Pr) (z : Fl) (u : U) (us : List U) (w : W) (F : List Nat) : Prop := ∃ n ob ws F0 T0, w = .ref n ∧ c n = some ob ∧ Sh z u us ob ws ∧ D0s c us ws F0 T0 ∧ Fg E B z n F0 T0 F
theorem D.node (h : D c E B u w F) : u = .non ∨ (∃ b, u = .bl b) ∨ (∃ i, u = .int i) ∨ (∃ z, u = .str z) ∨ (∃ us, u = .tup us) ∨ ∃ z us, Nd c E B z u us w F := by
  obtain ⟨T, Z, d, h1, h2, h3⟩ := h
  cases d with
  | z d => cases d with
    | non => exact .inl rfl
    | bl b => exact .inr (.inl ⟨b, rfl⟩)
    | int i => exact .inr (.inr (.inl ⟨i, rfl⟩))
    | str z => exact .inr (.inr (.inr (.inl ⟨z, rfl⟩)))
    | tup r => exact .inr (.inr (.inr (.inr (.inl ⟨_, rfl⟩))))
    | own e k r => exact .inr (.inr (.inr (.inr (.inr ⟨.o, _, _, _, _, _, _, rfl, e, k, r, rfl, h1, h2⟩))))
    | shr e k r => exact .inr (.inr (.inr (.inr (.inr ⟨.s, _, _, _, _, _, _, rfl, e, k, r, rfl, h2 _ (List.mem_cons_self ..), fun a m => h2 a (List.mem_cons_of_mem _ (List.mem_append_left _ m)), fun a m => h2 a (List.mem_cons_of_mem _ (List.mem_append_right _ m))⟩))))
  | b e k r => exact .inr (.inr (.inr (.inr (.inr ⟨.b, _, _, _, _, _, _, rfl, e, k, r, rfl, h3, h2⟩))))
theorem D.lst {z : Fl} (h : D c E B (.lst z us) w F) : ∃ n ws F0 T0, w = .ref n ∧ c n = some (.lst ws) ∧ D0s c us ws F0 T0 ∧ Fg E B z n F0 T0 F := by
  rcases h.node with h | ⟨_, h⟩ | ⟨_, h⟩ | ⟨_, h⟩ | ⟨_, h⟩ | ⟨z', us', n, ob, ws, F0, T0, rfl, e, k, r, f⟩ <;> first | cases h | skip
  cases k
  exact ⟨n, ws, F0, T0, rfl, e, r, f⟩
theorem D.frz_ {ns : List Int} (h : D c E B (.frz ns) w F) : F = [] ∧ ∃ n, w = .ref n ∧ c n = some (.frz ns) ∧ ¬ E n := by
  rcases h.node with h | ⟨_, h⟩ | ⟨_, h⟩ | ⟨_, h⟩ | ⟨_, h⟩ | ⟨z', us', n, ob, ws, F0, T0, rfl, e, k, r, f⟩ <;> first | cases h | skip
  cases k
  exact ⟨f.1, n, rfl, e, f.2.1⟩
theorem D.is_int {i : Int} (h : D c E B (.int i) w F) : w = .int i := by
  obtain ⟨T, Z, d, _⟩ := h
  cases d with
  | z d => cases d with
    | int => rfl
    | own _ k _ => cases k
    | shr _ k _ => cases k
  | b _ k _ => cases k
theorem D.is_str {i : Str} (h : D c E B (.str i) w F) : w = .str i := by
  obtain ⟨T, Z, d, _⟩ := h
  cases d with
  | z d => cases d with
    | str => rfl
    | own _ k _ => cases k
    | shr _ k _ => cases k
  | b _ k _ => cases k
theorem D.is_non (h : D c E B .non w F) : w = .non := by
  obtain ⟨T, Z, d, _⟩ := h
  cases d with
  | z d => cases d with
    | non => rfl
    | own _ k _ => cases k
    | shr _ k _ => cases k
  | b _ k _ => cases k
theorem Ds.less (h : Ds c E B us ws F) {G : List Nat} (hd : ∀ a ∈ F, a ∉ G) : Ds c (dn E G) B us ws F := by
  induction h with
  | nil => exact .nil
  | cons d r ih => exact .cons (d.less fun a m => hd a (List.mem_append_left _ m)) (ih fun a m => hd a (List.mem_append_right _ m))
theorem ds_ints {ns : List Int} : Ds c E B (ns.map U.int) (ns.map W.int) [] := by
  induction ns with
  | nil => exact .nil
  | cons n ns ih => exact .cons (F := []) d_int ih
end

def RIt : Rl (List U) ItD := fun c E B us d F => F = [] ∧ ∃ (ws : List W) (Sx : List Nat), Ds c E B us ws [] ∧ (∀ a ∈ Sx, c a ≠ none ∧ (¬ E a ∨ B a)) ∧ ∀ p s, (∀ a ∈ Sx, rd p s a = c a) → (∀ i : Nat, d.next p s i = some ws[i]?) ∧ ws.length ≤ d.cnt p s
theorem Keep.at {c c' : Cf} {E E' K : Pr} {B : Pr} (x : Keep c E K c' E') (hb : ∀ n, B n → K n) {a : Nat} (h : c a ≠ none ∧ (¬ E a ∨ B a)) : c' a = c a ∧ (¬ E' a ∨ B a) := by
  rcases h.2 with e | b
  · cases q : c a with
    | none => exact absurd q h.1
    | some ob => exact ⟨(x.sh a ob q e).1, .inl (x.sh a ob q e).2⟩
  · exact ⟨(x.kp a (hb a b)).1, .inr b⟩
theorem rmI : RM RIt := ⟨fun h x b f => by
  obtain ⟨h0, ws, Sx, d, p, q⟩ := h
  exact ⟨h0, ws, Sx, d.mono x b no, fun a m => ⟨by rw [(x.at b (p a m)).1]; exact (p a m).1, (x.at b (p a m)).2⟩, fun p' s' e => q p' s' fun a m => (e a m).trans (x.at b (p a m)).1⟩, fun h a m => by
  obtain ⟨rfl, _⟩ := h
  cases m⟩

def rngU (lo c : Int) : Nat → List U
  | 0 => []
  | n + 1 => .int lo :: rngU (lo + c) c n
def itemsU : U → Option (List U)
  | .lst .b us => some (us.map bor)
  | .lst _ us => some (us.map frz)
  | .tup us => some us
  | .frz ns => some (ns.map U.int)
  | _ => none
def iSeq (ma : VL → RU U) : VL → RU (List U) := fun v => (ma v).bind fun u v1 => match itemsU u with
  | some us => .ok us v1
  | none => .bad
def iRange1 (ma : VL → RU U) : VL → RU (List U) := fun v => (ma v).bind fun u v1 => match u with
  | .int j => if CC.b62 j then .ok (rngU 0 1 j.toNat) v1 else .bad
  | _ => .bad
def iRange2 (ma mb : VL → RU U) : VL → RU (List U) := fun v => (ma v).bind fun u v1 => (mb v1).bind fun u2 v2 => match u, u2 with
  | .int i, .int j => if CC.b62 i && CC.b62 j then .ok (rngU i 1 (j - i).toNat) v2 else .bad
  | _, _ => .bad
def iRange3 (ma mb mc : VL → RU U) : VL → RU (List U) := fun v => (ma v).bind fun u v1 => (mb v1).bind fun u2 v2 => (mc v2).bind fun u3 v3 => match u, u2, u3 with
  | .int i, .int j, .int c => if c = -1 then (if CC.b62 i && CC.b62 j then .ok (rngU i (-1) (i - j).toNat) v3 else .bad)
    else if CC.rgOk i j c then .ok (rngU i c (Builtin.Range.rangeSize i j c).toNat) v3 else .bad
  | _, _, _ => .bad
def enU : Nat → List U → List U
  | _, [] => []
  | i, u :: r => .tup [.int (i : Nat), u] :: enU (i + 1) r
def iEnm (ma : VL → RU U) : VL → RU (List U) := fun v => (ma v).bind fun u v1 => match itemsU u with
  | some us => if us.all noB then .ok (enU 0 us) v1 else .bad
  | none => .bad
def zipU : List U → List U → List U
  | a :: r, b :: q => .tup [a, b] :: zipU r q
  | _, _ => []
/-- the items of a list -/
def lstU : U → Option (List U)
  | .lst .b us => some (us.map bor)
  | .lst _ us => some (us.map frz)
  | .frz ns => some (ns.map U.int)
  | _ => none
def iZip (ma mb : VL → RU U) : VL → RU (List U) := fun v => (ma v).bind fun u v1 => (mb v1).bind fun u2 v2 => match lstU u, lstU u2 with
  | some us, some us2 => if us.all noB && us2.all noB then .ok (zipU us us2) v2 else .bad
  | _, _ => .bad
def viB (m : VL → RU (List U)) : VL → RU (List U) := fun v => match m v with
  | .ok u _ => if u.all noB then .ok u v else .bad
  | .exc k u _ => .exc k u v
  | .bad => .bad
def forL (g : U → VL → Option VL) (b : VL → RSU) : List U → VL → RSU
  | [], v => .nx v
  | u :: r, v => match g u v with
    | none => .bad
    | some v1 => match b v1 with
      | .nx v2 => fV v2 (forL g b r)
      | .ct v2 => fV v2 (forL g b r)
      | .brk v2 => .nx v2
      | q => q
def sFor (g : U → VL → Option VL) (mi : VL → RU (List U)) (b : VL → RSU) : VL → RSU := fun v => (mi v).toS fun us v1 => forL g b us v1

section
variable {C : Ct} {md : Bool} {c c1 : Cf} {E E1 K K1 B : Pr} {l : Lo} {vl : VL} {s : S} {Fs : Nat → List Nat}
/-- a list (or a tuple) as it is walked; its own cells are given up -/
theorem items_ok {p : Hh} {u : U} {w : W} {F : List Nat} {us : List U} (d : D (rd p s) E B u w F) (h : itemsU u = some us) : ∃ ws, Ds (rd p s) (dn E F) B us ws [] ∧
    ((∃ n, w = .ref n ∧ CC.cellItems p s n = some ws ∧ rd p s n ≠ none ∧ (¬ dn E F n ∨ B n)) ∨ w = .tup ws) := by
  cases u with
  | tup us' =>
    cases h
    obtain ⟨rfl, ws, rfl, ds⟩ := d.is_tup
    refine ⟨ws, ?_, .inr rfl⟩
    obtain ⟨f0, ws', e, ds⟩ := D.is_tup (d.frz' : D _ _ _ (.tup us) _ _)
    cases e
    exact ds
  | frz ns =>
    cases h
    obtain ⟨rfl, n, rfl, e, ne⟩ := d.frz_
    exact ⟨ns.map W.int, ds_ints, .inl ⟨n, rfl, by unfold CC.cellItems; rw [e], by rw [e]; simp, .inl fun z => ne z.1⟩⟩
  | lst z us' =>
    obtain ⟨n, ws, F0, T0, rfl, e, r, f⟩ := d.lst
    refine ⟨ws, ?_, .inl ⟨n, rfl, by unfold CC.cellItems; rw [e], by rw [e]; simp, ?_⟩⟩
    · cases z with
      | o =>
        cases h
        obtain ⟨rfl, _, f2⟩ := f
        exact r.frzd (fun a m z => z.2 (List.mem_cons_of_mem _ m)) fun a m z => f2 a m z.1
      | s =>
        cases h
        obtain ⟨rfl, f1, f2, f3⟩ := f
        exact r.frzd (fun a m z => f2 a m z.1) fun a m z => f3 a m z.1
      | b =>
        cases h
        obtain ⟨rfl, f1, f2⟩ := f
        exact r.bord (fun a m => f1 a (List.mem_cons_of_mem _ m)) fun a m z => f2 a m z.1
    · cases z with
      | o => exact .inl fun z => z.2 (by rw [f.1]; exact List.mem_cons_self ..)
      | s => exact .inl fun z => f.2.1 z.1
      | b => exact .inr (f.2.1 n (List.mem_cons_self ..))
  | _ => cases h
theorem sim_seqI {a : VL → RU U} {ma : Lo → S → R W} (ha : SimE C md a ma) : Sim C md RIt (iSeq a) (CC.iSeq ma C.p) := fun s l vl E K B Fs r => by
  refine (ha s l vl E K B Fs r).bind r.bk fun u v w s2 E2 F Fs2 k2 r2 d f => ?_
  cases e : itemsU u with
  | none => trivial
  | some us =>
    obtain ⟨ws, ds, h⟩ := items_ok d e
    have k3 := k2.trans (Keep.dn fun a m => (f.2 a m).1)
    have r3 := r2.dn f.2 d.alive
    rcases h with ⟨n, rfl, e2, e3, e4⟩ | rfl
    · dsimp only
      rw [e2]
      refine ⟨_, s2, _, [], Fs2, rfl, k3, r3, ⟨rfl, ws, [n], ds, fun a m => ?_, fun p' s' h => ?_⟩, .nil⟩
      · rw [List.mem_singleton.mp m]; exact ⟨e3, e4⟩
      · have e5 : CC.cellItems p' s' n = some ws := by
          unfold CC.cellItems at e2 ⊢
          rw [h n (by simp)]; exact e2
        refine ⟨fun i => ?_, ?_⟩
        · show (CC.cellItems p' s' n).map (fun ws => ws[i]?) = _
          rw [e5]; rfl
        · show ws.length ≤ CC.cellLen p' s' n
          unfold CC.cellLen
          rw [e5]; exact Nat.le_refl _
    · exact ⟨_, s2, _, [], Fs2, rfl, k3, r3, ⟨rfl, ws, [], ds, no, fun p' s' h => ⟨fun i => rfl, Nat.le_refl _⟩⟩, .nil⟩
theorem rng_get {lo c : Int} : ∀ {n i : Nat}, (CC.rngW lo c n)[i]? = if i < n then some (.int (lo + (i : Nat) * c)) else none
  | 0, i => by simp [CC.rngW]
  | n + 1, 0 => by simp [CC.rngW]
  | n + 1, i + 1 => by
    simp only [CC.rngW, List.getElem?_cons_succ]
    rw [rng_get]
    by_cases h : i < n
    · rw [if_pos h, if_pos (by omega)]
      congr 2
      have : ((i + 1 : Nat) : Int) = (i : Int) + 1 := by omega
      rw [this, Int.add_mul, Int.one_mul]
      omega
    · rw [if_neg h, if_neg (by omega)]
theorem rng_len {lo c : Int} : ∀ {n : Nat}, (CC.rngW lo c n).length = n
  | 0 => rfl
  | n + 1 => by simp [CC.rngW, rng_len]
theorem rng_ds {lo c : Int} {c' : Cf} : ∀ {n : Nat}, Ds c' E B (rngU lo c n) (CC.rngW lo c n) []
  | 0 => .nil
  | n + 1 => .cons (F := []) d_int rng_ds
theorem rng_rit {lo c : Int} {n : Nat} {c' : Cf} : RIt c' E B (rngU lo c n) (.rng lo c n) [] :=
  ⟨rfl, CC.rngW lo c n, [], rng_ds, no, fun p' s' h => ⟨fun i => by rw [rng_get]; rfl, by rw [rng_len]; exact Nat.le_refl _⟩⟩
theorem sim_range1 {a : VL → RU U} {ma : Lo → S → R W} (ha : SimE C md a ma) : Sim C md RIt (iRange1 a) (CC.iRange1 ma) := fun s l vl E K B Fs r => by
  refine (ha s l vl E K B Fs r).bind r.bk fun u v w s2 E2 F Fs2 k2 r2 d f => ?_
  cases u with
  | int j =>
    obtain rfl := d.is_int
    dsimp only
    split
    · exact ⟨_, s2, E2, [], Fs2, rfl, k2, r2, rng_rit, .nil⟩
    · trivial
  | _ => trivial
theorem sim_range2 {a b : VL → RU U} {ma mb : Lo → S → R W} (ha : SimE C md a ma) (hb : SimE C md b mb) : Sim C md RIt (iRange2 a b) (CC.iRange2 ma mb) := fun s l vl E K B Fs r => by
  refine Aft.two rmD rmD ha hb r fun x y v wx wy s2 E2 F1 F2 Fs2 k2 r2 d1 d2 f2 => ?_
  cases x with
  | int i =>
    cases y with
    | int j =>
      obtain rfl := d1.is_int
      obtain rfl := d2.is_int
      dsimp only
      split
      · exact ⟨_, s2, E2, [], Fs2, rfl, k2, r2, rng_rit, .nil⟩
      · trivial
    | _ => trivial
  | _ => trivial
theorem sim_range3 {a b e : VL → RU U} {ma mb me : Lo → S → R W} (ha : SimE C md a ma) (hb : SimE C md b mb) (he : SimE C md e me) : Sim C md RIt (iRange3 a b e) (CC.iRange3 ma mb me) := fun s l vl E K B Fs r => by
  refine Aft.two rmD rmD ha hb r fun x y v wx wy s2 E2 F1 F2 Fs2 k2 r2 d1 d2 f2 => ?_
  refine ((he s2 l v E2 K B Fs2 r2).then k2).bind r.bk fun z v3 wz s3 E3 F3 Fs3 k3 r3 d3 f3 => ?_
  cases x with
  | int i =>
    cases y with
    | int j =>
      cases z with
      | int q =>
        obtain rfl := d1.is_int
        obtain rfl := d2.is_int
        obtain rfl := d3.is_int
        dsimp only
        split
        · split
          · exact ⟨_, s3, E3, [], Fs3, rfl, k3, r3, rng_rit, .nil⟩
          · trivial
        · split
          · exact ⟨_, s3, E3, [], Fs3, rfl, k3, r3, rng_rit, .nil⟩
          · trivial
      | _ => trivial
    | _ => trivial
  | _ => trivial
def enW : Nat → List W → List W
  | _, [] => []
  | i, u :: r => .tup [.int (i : Nat), u] :: enW (i + 1) r
theorem enW_get {ws : List W} : ∀ {k i : Nat}, (enW k ws)[i]? = ws[i]?.map fun w => .tup [.int ((k + i : Nat) : Int), w] := by
  induction ws with
  | nil => intro k i; simp [enW]
  | cons w ws ih =>
    intro k i
    cases i with
    | zero => simp [enW]
    | succ i =>
      simp only [enW, List.getElem?_cons_succ]
      rw [ih]
      have : k + 1 + i = k + (i + 1) := by omega
      rw [this]
theorem enW_len {ws : List W} : ∀ {k : Nat}, (enW k ws).length = ws.length := by
  induction ws with
  | nil => intro k; rfl
  | cons w ws ih => intro k; simp [enW, ih]
theorem en_ds {us : List U} {ws : List W} : ∀ {k : Nat}, Ds c E B us ws [] → us.all noB = true → Ds c E B (enU k us) (enW k ws) [] := by
  induction us generalizing ws with
  | nil =>
    intro k h q
    rcases h.nil_of rfl with ⟨_, rfl⟩ | ⟨u, w, us', ws', e, _, _, _⟩
    · exact .nil
    · cases e
  | cons u us ih =>
    intro k h q
    rcases h.nil_of rfl with ⟨e, _⟩ | ⟨u', w, us', ws', e, rfl, d1, d2⟩
    · cases e
    · cases e
      simp only [List.all_cons, Bool.and_eq_true] at q
      refine .cons (F := []) (Ds.tup (.cons (F := []) d_int (.cons (F := []) (d1 : D c E B u w []) .nil)) ?_) (ih d2 q.2)
      show (true && (noB u && true)) = true
      rw [q.1]; rfl
theorem sim_enm {a : VL → RU U} {ma : Lo → S → R W} (ha : SimE C md a ma) : Sim C md RIt (iEnm a) (CC.iEnm ma C.p) := fun s l vl E K B Fs r => by
  refine (ha s l vl E K B Fs r).bind r.bk fun u v w s2 E2 F Fs2 k2 r2 d f => ?_
  cases e : itemsU u with
  | none => trivial
  | some us =>
    obtain ⟨ws, ds, h⟩ := items_ok d e
    have k3 := k2.trans (Keep.dn fun a m => (f.2 a m).1)
    have r3 := r2.dn f.2 d.alive
    dsimp only
    split
    · rename_i q
      have ds2 := en_ds (k := 0) ds q
      rcases h with ⟨n, rfl, e2, e3, e4⟩ | rfl
      · dsimp only
        rw [e2]
        refine ⟨_, s2, _, [], Fs2, rfl, k3, r3, ⟨rfl, enW 0 ws, [n], ds2, fun a m => ?_, fun p' s' h => ?_⟩, .nil⟩
        · rw [List.mem_singleton.mp m]; exact ⟨e3, e4⟩
        · have e5 : CC.cellItems p' s' n = some ws := by
            unfold CC.cellItems at e2 ⊢
            rw [h n (by simp)]; exact e2
          refine ⟨fun i => ?_, ?_⟩
          · show (CC.cellItems p' s' n).map (fun ws => ws[i]?.map fun w => W.tup [.int (i : Nat), w]) = _
            rw [e5, enW_get, Nat.zero_add]; rfl
          · show _ ≤ CC.cellLen p' s' n
            unfold CC.cellLen
            rw [e5, enW_len]; exact Nat.le_refl _
      · exact ⟨_, s2, _, [], Fs2, rfl, k3, r3, ⟨rfl, enW 0 ws, [], ds2, no, fun p' s' h => ⟨fun i => by rw [enW_get, Nat.zero_add]; rfl, by rw [enW_len]; exact Nat.le_refl _⟩⟩, .nil⟩
    · trivial
theorem lstU_items {u : U} {us : List U} (h : lstU u = some us) : itemsU u = some us := by
  cases u with
  | lst z _ => cases z <;> exact h
  | frz _ => exact h
  | _ => cases h
theorem lstU_ref {u : U} {us : List U} {w : W} {F : List Nat} (h : lstU u = some us) (d : D c E B u w F) : ∃ n, w = .ref n := by
  cases u with
  | lst z _ => obtain ⟨n, ws, F0, T0, rfl, _⟩ := d.lst; exact ⟨n, rfl⟩
  | frz _ => obtain ⟨_, n, rfl, _⟩ := d.frz_; exact ⟨n, rfl⟩
  | _ => cases h
def zipW : List W → List W → List W
  | a :: r, b :: q => .tup [a, b] :: zipW r q
  | _, _ => []
theorem zipW_get : ∀ {xs ys : List W} {i : Nat}, (zipW xs ys)[i]? = (match xs[i]?, ys[i]? with | some x, some y => some (.tup [x, y]) | _, _ => none)
  | [], ys, i => by simp [zipW]
  | x :: xs, [], i => by cases h : (x :: xs)[i]? <;> simp [zipW]
  | x :: xs, y :: ys, 0 => by simp [zipW]
  | x :: xs, y :: ys, i + 1 => by simp only [zipW, List.getElem?_cons_succ]; exact zipW_get
theorem zipW_len : ∀ {xs ys : List W}, (zipW xs ys).length ≤ xs.length
  | [], ys => by simp [zipW]
  | x :: xs, [] => by simp [zipW]
  | x :: xs, y :: ys => by simp only [zipW, List.length_cons]; exact Nat.succ_le_succ zipW_len
theorem zip_ds : ∀ {us us2 : List U} {ws ws2 : List W}, Ds c E B us ws [] → Ds c E B us2 ws2 [] → us.all noB = true → us2.all noB = true → Ds c E B (zipU us us2) (zipW ws ws2) []
  | [], us2, ws, ws2, h, h2, _, _ => by
    rcases h.nil_of rfl with ⟨_, rfl⟩ | ⟨u, w, us', ws', e, _, _, _⟩
    · exact .nil
    · cases e
  | u :: us, [], ws, ws2, h, h2, _, _ => by
    rcases h2.nil_of rfl with ⟨_, rfl⟩ | ⟨u, w, us', ws', e, _, _, _⟩
    · cases ws <;> exact .nil
    · cases e
  | u :: us, u2 :: us2, ws, ws2, h, h2, q, q2 => by
    rcases h.nil_of rfl with ⟨e, _⟩ | ⟨u', w, us', ws', e, rfl, d1, d2⟩
    · cases e
    · cases e
      rcases h2.nil_of rfl with ⟨e, _⟩ | ⟨u', w2, us', ws2', e, rfl, d3, d4⟩
      · cases e
      · cases e
        simp only [List.all_cons, Bool.and_eq_true] at q q2
        refine .cons (F := []) (Ds.tup (.cons (F := []) (d1 : D c E B u w []) (.cons (F := []) (d3 : D c E B u2 w2 []) .nil)) ?_) (zip_ds d2 d4 q.2 q2.2)
        show (noB u && (noB u2 && true)) = true
        rw [q.1, q2.1]; rfl
theorem sim_zip {a b : VL → RU U} {ma mb : Lo → S → R W} (ha : SimE C md a ma) (hb : SimE C md b mb) : Sim C md RIt (iZip a b) (CC.iZip ma mb C.p) := fun s l vl E K B Fs r => by
  refine Aft.two rmD rmD ha hb r fun x y v wx wy s2 E2 F1 F2 Fs2 k2 r2 d1 d2 f2 => ?_
  cases e : lstU x with
  | none => trivial
  | some us =>
    cases e' : lstU y with
    | none => trivial
    | some us2 =>
      dsimp only
      split
      · rename_i q
        simp only [Bool.and_eq_true] at q
        obtain ⟨n, rfl⟩ := lstU_ref e d1
        obtain ⟨m, rfl⟩ := lstU_ref e' d2
        have nd := List.nodup_append.mp f2.1
        have d1' := d1.less (G := F2) (fun a h h2 => nd.2.2 a h a h2 rfl)
        have r3 := r2.dn (F := F2) (fun a m => f2.2 a (List.mem_append_right _ m)) d2.alive
        have k3 := k2.trans (Keep.dn (F := F2) fun a m => (f2.2 a (List.mem_append_right _ m)).1)
        obtain ⟨ws, ds, h⟩ := items_ok d1' (lstU_items e)
        have r4 := r3.dn (F := F1) (fun a m => f2.2 a (List.mem_append_left _ m)) d1.alive
        have k4 := k3.trans (Keep.dn (F := F1) fun a m => (f2.2 a (List.mem_append_left _ m)).1)
        obtain ⟨ws2, ds2, h2⟩ := items_ok d2 (lstU_items e')
        have ds2' := ds2.less (G := F1) no
        rcases h with ⟨n', en, e2, e3, e4⟩ | z
        · rcases h2 with ⟨m', em, g2, g3, g4⟩ | z
          · cases en
            cases em
            dsimp only
            rw [e2, g2]
            refine ⟨_, s2, _, [], Fs2, rfl, k4, r4, ⟨rfl, zipW ws ws2, [n, m], zip_ds ds ds2' q.1 q.2, fun a h => ?_, fun p' s' h => ?_⟩, .nil⟩
            · rcases List.mem_cons.mp h with rfl | h
              · exact ⟨e3, e4⟩
              · rw [List.mem_singleton.mp h]
                exact ⟨g3, g4.imp (fun z w => z w.1) id⟩
            · have e5 : CC.cellItems p' s' n = some ws := by
                unfold CC.cellItems at e2 ⊢
                rw [h n (by simp)]; exact e2
              have g5 : CC.cellItems p' s' m = some ws2 := by
                unfold CC.cellItems at g2 ⊢
                rw [h m (by simp)]; exact g2
              refine ⟨fun i => ?_, ?_⟩
              · show (match CC.cellItems p' s' n, CC.cellItems p' s' m with
                  | some xs, some ys => some (match xs[i]?, ys[i]? with | some x, some y => some (W.tup [x, y]) | _, _ => none)
                  | _, _ => none) = _
                rw [e5, g5, zipW_get]
              · show _ ≤ CC.cellLen p' s' n
                unfold CC.cellLen
                rw [e5]; exact zipW_len
          · cases z
        · cases z
      · trivial
end
end CV
set_option Elab.async false
set_option linter.all false
set_option maxRecDepth 100000
/-! CV5: for; comprehensions; defs and calls -/
namespace CV
open PySem PySem.Spec PyProof.Rows L2
open CC (W Ob S Hh Lo R RS rd wr al nxt ItD)

section
variable {C : Ct} {md : Bool} {c c1 : Cf} {E E1 K K1 B : Pr} {l : Lo} {vl : VL} {s : S} {Fs : Nat → List Nat}
theorem for_ok {g : U → VL → Option VL} {m : W → Lo → S → CC.OG} {b : VL → RSU} {mb : Lo → S → RS} (hg : SimG C g m) (hb : SimS C b mb) {d : ItD} {ws : List W} {Sx : List Nat} {c0 : Cf} (al0 : ∀ a ∈ Sx, c0 a ≠ none)
    (hd : ∀ p s, (∀ a ∈ Sx, rd p s a = c0 a) → (∀ i : Nat, d.next p s i = some ws[i]?) ∧ ws.length ≤ d.cnt p s) : ∀ (us : List U) (i fuel : Nat) s l vl E K B Fs, SL C true (rd C.p s) E K B vl l Fs → Ds (rd C.p s) E B us (ws.drop i) [] → (∀ a ∈ Sx, rd C.p s a = c0 a ∧ (¬ E a ∨ B a)) → us.length < fuel →
      AftS C (rd C.p s) E K B (forL g b us vl) (CC.forI C.p m mb d fuel i l s)
  | us, i, 0, s, l, vl, E, K, B, Fs, r, ds, hs, hf => absurd hf (Nat.not_lt_zero _)
  | [], i, fuel + 1, s, l, vl, E, K, B, Fs, r, ds, hs, hf => by
    rcases ds.nil_of rfl with ⟨_, e⟩ | ⟨_, _, _, _, e, _⟩
    · have hi : ws[i]? = none := by
        rw [List.getElem?_eq_none]
        have := congrArg List.length e
        simp at this; omega
      unfold CC.forI
      rw [(hd C.p s fun a h => (hs a h).1).1 i, hi]
      exact ⟨l, s, E, Fs, rfl, .rfl', r⟩
    · cases e
  | u :: us, i, fuel + 1, s, l, vl, E, K, B, Fs, r, ds, hs, hf => by
    rcases ds.nil_of rfl with ⟨e, _⟩ | ⟨u', w, us', ws', e, e2, d1, d2⟩
    · cases e
    · cases e
      have hi : ws[i]? = some w := by
        have := congrArg (fun l => l[0]?) e2
        simpa [List.getElem?_drop] using this
      have e3 : ws.drop (i + 1) = ws' := by
        rw [show i + 1 = i + 1 from rfl, ← List.drop_drop, e2]; rfl
      unfold CC.forI forL
      rw [(hd C.p s fun a h => (hs a h).1).1 i, hi]
      dsimp only
      have q := hg s l vl E K B Fs u w [] r d1 .nil
      cases e4 : g u vl with
      | none => trivial
      | some v =>
        rw [e4] at q
        obtain ⟨l1, s1, E1, Fs1, e5, k1, r1⟩ := q
        rw [e5]
        dsimp only
        have h2 := hb s1 l1 v E1 K B Fs1 r1
        have go : ∀ v2 l3 s3 E3 Fs3, Keep (rd C.p s1) E1 K (rd C.p s3) E3 → SL C true (rd C.p s3) E3 K B v2 l3 Fs3 → AftS C (rd C.p s) E K B (forL g b us v2) (CC.forI C.p m mb d fuel (i + 1) l3 s3) := fun v2 l3 s3 E3 Fs3 k3 r3 => by
          have kk := k1.trans k3
          refine (for_ok hg hb al0 hd us (i + 1) fuel s3 l3 v2 E3 K B Fs3 r3 ?_ (fun a h => ?_) (by simp at hf; omega)).then kk
          · rw [e3]; exact d2.mono kk r.bk no
          · have := kk.at r.bk (a := a) ⟨by rw [(hs a h).1]; exact al0 a h, (hs a h).2⟩
            exact ⟨this.1.trans (hs a h).1, this.2⟩
        cases e6 : b v with
        | nx v2 =>
          rw [e6] at h2
          obtain ⟨l3, s3, E3, Fs3, e7, k3, r3⟩ := h2
          rw [e7]
          dsimp only
          rw [fV_eq]
          exact go v2 l3 s3 E3 Fs3 k3 r3
        | ct v2 =>
          rw [e6] at h2
          obtain ⟨l3, s3, E3, Fs3, e7, k3, r3⟩ := h2
          rw [e7]
          dsimp only
          rw [fV_eq]
          exact go v2 l3 s3 E3 Fs3 k3 r3
        | brk v2 =>
          rw [e6] at h2
          obtain ⟨l3, s3, E3, Fs3, e7, k3, r3⟩ := h2
          rw [e7]
          exact ⟨l3, s3, E3, Fs3, rfl, k1.trans k3, r3⟩
        | ret u v2 =>
          rw [e6] at h2
          obtain ⟨w, l3, s3, E3, F3, Fs3, e7, k3, r3⟩ := h2
          rw [e7]
          exact ⟨w, l3, s3, E3, F3, Fs3, rfl, k1.trans k3, r3⟩
        | exc q u v2 =>
          rw [e6] at h2
          obtain ⟨w, l3, s3, E3, Fs3, e7, k3, r3⟩ := h2
          rw [e7]
          exact ⟨w, l3, s3, E3, Fs3, rfl, k1.trans k3, r3⟩
        | bad => trivial
theorem sim_for {g : U → VL → Option VL} {m : W → Lo → S → CC.OG} {b : VL → RSU} {mb : Lo → S → RS} {mi : VL → RU (List U)} {mi' : Lo → S → R ItD} (hg : SimG C g m) (hi : Sim C true RIt mi mi') (hb : SimS C b mb) : SimS C (sFor g mi b) (CC.sFor C.p m mi' mb) := fun s l vl E K B Fs r => by
  have : CC.sFor C.p m mi' mb l s = RtoS l (mi' l s) fun d s1 => CC.forI C.p m mb d (d.cnt C.p s1 + 1) 0 l s1 := by
    unfold CC.sFor RtoS
    cases mi' l s <;> rfl
  rw [this]
  refine AftS.val (rel := RIt) (hi s l vl E K B Fs r) fun us v d s2 E2 F Fs2 k2 r2 q f => ?_
  obtain ⟨_, ws, Sx, ds, al, hd⟩ := q
  refine (for_ok hg hb (c0 := rd C.p s2) (fun a h => (al a h).1) hd us 0 _ s2 l v E2 K B Fs2 r2 (by rw [List.drop_zero]; exact ds) (fun a h => ⟨rfl, (al a h).2⟩) ?_).then k2
  rw [ds.len]
  exact Nat.lt_succ_of_le (hd C.p s2 fun a h => rfl).2

/-! comprehensions -/
theorem D.upd {u : U} {w : W} {F : List Nat} {n : Nat} (d : D c E B u w F) (h : ∀ a, a ≠ n → c1 a = c a) (he : E n) (hb : ¬ B n) (hf : n ∉ F) : D c1 E B u w F := by
  obtain ⟨T, Z, d, h1, h2, h3⟩ := d
  refine ⟨T, Z, d.mono fun a m => h a ?_, h1, h2, h3⟩
  rintro rfl
  rcases m with m | m | m
  · exact hf m
  · exact h2 a m he
  · exact hb (h3 a m)
theorem Ds.upd {u : List U} {w : List W} {F : List Nat} {n : Nat} (d : Ds c E B u w F) (h : ∀ a, a ≠ n → c1 a = c a) (he : E n) (hb : ¬ B n) (hf : n ∉ F) : Ds c1 E B u w F := by
  induction d with
  | nil => exact .nil
  | cons d r ih => exact .cons (d.upd h he hb fun m => hf (List.mem_append_left _ m)) (ih fun m => hf (List.mem_append_right _ m))
theorem SL.upd {n : Nat} (r : SL C md c E K B vl l Fs) (h : ∀ a, a ≠ n → c1 a = c a) (h0 : c1 n ≠ none) (he : E n) (hk : ¬ K n) (hf : ∀ i, n ∉ Fs i) : SL C md c1 E K B vl l Fs :=
  have al : ∀ a, c a ≠ none → c1 a ≠ none := fun a ha => by
    by_cases e : a = n
    · rw [e]; exact h0
    · rw [h a e]; exact ha
  ⟨r.len, fun i u q => by
    obtain ⟨w, h1, h2⟩ := r.has i u q
    exact ⟨w, h1, h2.upd h he (fun b => hk (r.bk n b)) (hf i)⟩, r.own, r.bor, fun i a m => ⟨al a (r.ex i a m).1, (r.ex i a m).2⟩, fun u w q => (r.ax u w q).upd h he (fun b => hk (r.bk n b)) (by simp), r.mpk, fun a q => by
    by_cases e : a = n
    · rw [e]; exact he
    · rw [h a e] at q; exact r.ev a q, r.bk, fun a k => ⟨al a (r.ka a k).1, (r.ka a k).2⟩⟩
theorem Keep.upd {n : Nat} (h : ∀ a, a ≠ n → c1 a = c a) (h0 : c1 n ≠ none) (he : E n) (hk : ¬ K n) : Keep c E K c1 E :=
  ⟨fun a ob q e => ⟨by rw [h a (fun z => e (z ▸ he))]; exact q, e⟩, fun a k => ⟨h a (fun z => hk (z ▸ k)), id⟩, fun a q => by
    by_cases e : a = n
    · rw [e]; exact h0
    · rw [h a e]; exact q⟩
theorem wr_ne {p : Hh} {s : S} {n : Nat} {o : Ob} (hn : rd p s n ≠ none) : ∀ a, a ≠ n → rd p (wr p s n o) a = rd p s a := fun a e => by
  rw [CC.rd_wr (by
    cases q : rd p s n with
    | none => exact absurd q hn
    | some o => exact CC.rd_lt q), if_neg e]
theorem wr_at {p : Hh} {s : S} {n : Nat} {o : Ob} (hn : rd p s n ≠ none) : rd p (wr p s n o) n = some o := by
  rw [CC.rd_wr (by
    cases q : rd p s n with
    | none => exact absurd q hn
    | some o => exact CC.rd_lt q), if_pos rfl]
end
def bindV (u : U) (v : VL) : CC.CTg → Option VL
  | .nm i => some (v.set i (some u))
  | .pr i j => (match u with | .tup [a, b] => some ((v.set i (some a)).set j (some b)) | _ => none)
  | .tr i j k => (match u with | .tup [a, b, c] => some (((v.set i (some a)).set j (some b)).set k (some c)) | _ => none)
def wipeV (v : VL) : List Nat → VL
  | [] => v
  | i :: is => (wipeV v is).set i none
def noOs (v : VL) : List Nat → Bool
  | [] => true
  | i :: is => (match v[i]? with | some (some u) => noO u | _ => true) && noOs v is
def restV (v0 v : VL) : List Nat → VL
  | [] => v
  | i :: is => (restV v0 v is).set i (match v0[i]? with | some o => o | none => none)
def lcL (ct : CC.CTg) (t : VL → RU Bool) (e : VL → RU U) : List U → VL → RU (List U)
  | [], v => .ok [] v
  | u :: r, v => match bindV u v ct with
    | none => .bad
    | some v1 => match t v1 with
      | .ok false v2 => lcL ct t e r (wipeV v2 ct.slots)
      | .ok true v2 => (match e v2 with
        | .ok y v3 => (match lcL ct t e r (wipeV v3 ct.slots) with
          | .ok ys v4 => .ok (y :: ys) v4
          | _ => .bad)
        | _ => .bad)
      | _ => .bad
def eLc (ct : CC.CTg) (mi : VL → RU (List U)) (t : VL → RU Bool) (e : VL → RU U) : VL → RU U := fun v => (mi v).bind fun us v1 => if noOs v1 ct.slots then (match lcL ct t e us (wipeV v1 ct.slots) with
  | .ok ys v2 => if ys.length ≤ 1000000 ∧ ys.all noB = true then .ok (.lst .o ys) (restV v1 v2 ct.slots) else .bad
  | _ => .bad) else .bad
section
variable {C : Ct} {md : Bool} {c c1 : Cf} {E E1 K K1 B : Pr} {l : Lo} {vl : VL} {s : S} {Fs : Nat → List Nat}
theorem SL.put0 (r : SL C md c E K B vl l Fs) (i : Nat) {u : U} {w : W} (d : D c E B u w []) (hm : C.mp = none ∨ i ≠ C.mi) : SL C md c E K B (vl.set i (some u)) (l.set i (some w)) (upF Fs i []) :=
  r.put i (some u) w _ (by simp) (fun j h => List.getElem?_set_ne (Ne.symm h)) (fun u' e hi => by cases e; exact ⟨List.getElem?_set_self (by rw [← r.len]; exact hi), d⟩)
    (fun w' e => by
      rcases hm with hm | hm
      · rw [hm] at e; cases e
      · rw [List.getElem?_set_ne hm]; exact r.mpk w' e) List.nodup_nil no
theorem set_out {α : Type} {l : List α} {i j : Nat} {x : α} (h : j ≠ i) : (l.set i x)[j]? = l[j]? := List.getElem?_set_ne (Ne.symm h)
theorem Ds.two {x y : U} {ws : List W} (h : Ds c E B [x, y] ws []) : ∃ w1 w2, ws = [w1, w2] ∧ D c E B x w1 [] ∧ D c E B y w2 [] := by
  rcases h.nil_of rfl with ⟨e, _⟩ | ⟨u1, w1, us1, ws1, e, rfl, d1, ds⟩
  · cases e
  · cases e
    rcases ds.nil_of rfl with ⟨e, _⟩ | ⟨u2, w2, us2, ws2, e, rfl, d2, ds⟩
    · cases e
    · cases e
      rcases ds.nil_of rfl with ⟨_, rfl⟩ | ⟨_, _, _, _, e, _⟩
      · exact ⟨w1, w2, rfl, d1, d2⟩
      · cases e
theorem Ds.three {x y z : U} {ws : List W} (h : Ds c E B [x, y, z] ws []) : ∃ w1 w2 w3, ws = [w1, w2, w3] ∧ D c E B x w1 [] ∧ D c E B y w2 [] ∧ D c E B z w3 [] := by
  rcases h.nil_of rfl with ⟨e, _⟩ | ⟨u1, w1, us1, ws1, e, rfl, d1, ds⟩
  · cases e
  · cases e
    obtain ⟨w2, w3, rfl, d2, d3⟩ := Ds.two (c := c) ds
    exact ⟨w1, w2, w3, rfl, d1, d2, d3⟩
theorem bind_ok {ct : CC.CTg} {u : U} {w : W} {v1 : VL} (hm : C.mp = none ∨ C.mi ∉ ct.slots) (r : SL C md c E K B vl l Fs) (d : D c E B u w []) (h : bindV u vl ct = some v1) : ∃ l1 Fs1, ct.bind w l = some l1 ∧ SL C md c E K B v1 l1 Fs1 ∧ l1.length = l.length ∧ (∀ j, j ∉ ct.slots → l1[j]? = l[j]?) ∧ ∀ i a, a ∈ Fs1 i → a ∈ Fs i := by
  have hm' : ∀ i, i ∈ ct.slots → C.mp = none ∨ i ≠ C.mi := fun i hi => hm.imp id fun n e => n (e ▸ hi)
  have up : ∀ (Fs : Nat → List Nat) i j a, a ∈ upF Fs i [] j → a ∈ Fs j := fun Fs i j a m => by
    by_cases e : j = i
    · rw [e, upF_same] at m; cases m
    · rw [upF_ne e] at m; exact m
  cases ct with
  | nm i =>
    cases h
    exact ⟨_, _, rfl, r.put0 i d (hm' i (by simp [CC.CTg.slots])), by simp, fun j hj => set_out fun e => hj (by simp [CC.CTg.slots, e]), up Fs i⟩
  | pr i j =>
    cases u with
    | tup us =>
      obtain ⟨_, ws, rfl, ds⟩ := d.is_tup
      match us, ds, h with
      | [x, y], ds, h =>
        cases h
        obtain ⟨w1, w2, rfl, d1, d2⟩ := ds.two
        exact ⟨_, _, rfl, (r.put0 i d1 (hm' i (by simp [CC.CTg.slots]))).put0 j d2 (hm' j (by simp [CC.CTg.slots])), by simp, fun k hk => (set_out fun e => hk (by simp [CC.CTg.slots, e])).trans (set_out fun e => hk (by simp [CC.CTg.slots, e])), fun k a m => up Fs i k a (up _ j k a m)⟩
      | [], _, h => cases h
      | [_], _, h => cases h
      | _ :: _ :: _ :: _, _, h => cases h
    | _ => cases h
  | tr i j k =>
    cases u with
    | tup us =>
      obtain ⟨_, ws, rfl, ds⟩ := d.is_tup
      match us, ds, h with
      | [x, y, z], ds, h =>
        cases h
        obtain ⟨w1, w2, w3, rfl, d1, d2, d3⟩ := ds.three
        exact ⟨_, _, rfl, ((r.put0 i d1 (hm' i (by simp [CC.CTg.slots]))).put0 j d2 (hm' j (by simp [CC.CTg.slots]))).put0 k d3 (hm' k (by simp [CC.CTg.slots])), by simp, fun q hq => ((set_out fun e => hq (by simp [CC.CTg.slots, e])).trans (set_out fun e => hq (by simp [CC.CTg.slots, e]))).trans (set_out fun e => hq (by simp [CC.CTg.slots, e])), fun q a m => up Fs i q a (up _ j q a (up _ k q a m))⟩
      | [], _, h => cases h
      | [_], _, h => cases h
      | [_, _], _, h => cases h
      | _ :: _ :: _ :: _ :: _, _, h => cases h
    | _ => cases h
theorem wipeV_len {v : VL} : ∀ {is : List Nat}, (wipeV v is).length = v.length
  | [] => rfl
  | i :: is => by simp [wipeV, wipeV_len]
theorem wipeL_len {v : Lo} : ∀ {is : List Nat}, (CC.wipeL v is).length = v.length
  | [] => rfl
  | i :: is => by simp [CC.wipeL, wipeL_len]
theorem wipeV_out {v : VL} {j : Nat} : ∀ {is : List Nat}, j ∉ is → (wipeV v is)[j]? = v[j]?
  | [], _ => rfl
  | i :: is, h => by
    simp only [List.mem_cons, not_or] at h
    exact (set_out h.1).trans (wipeV_out h.2)
theorem wipeL_out {v : Lo} {j : Nat} : ∀ {is : List Nat}, j ∉ is → (CC.wipeL v is)[j]? = v[j]?
  | [], _ => rfl
  | i :: is, h => by
    simp only [List.mem_cons, not_or] at h
    exact (set_out h.1).trans (wipeL_out h.2)
theorem wipeV_in {v : VL} {j : Nat} {u : U} : ∀ {is : List Nat}, j ∈ is → (wipeV v is)[j]? ≠ some (some u)
  | i :: is, h => by
    intro e
    unfold wipeV at e
    by_cases q : j = i
    · subst q
      by_cases hi : j < (wipeV v is).length
      · rw [List.getElem?_set_self hi] at e; cases e
      · rw [List.getElem?_eq_none (by simpa using hi)] at e; cases e
    · rw [set_out q] at e
      exact wipeV_in ((List.mem_cons.mp h).elim (fun z => absurd z q) id) e
/-- back to the slots without the comprehension's own -/
theorem SL.wipe {l0 : Lo} {is : List Nat} (r : SL C md c E K B vl l Fs) (hl : l0.length = l.length) (h : ∀ j, j ∉ is → l[j]? = l0[j]?) (hm : ∀ w, C.mp = some w → l0[C.mi]? = some (some w)) : SL C md c E K B (wipeV vl is) l0 Fs :=
  ⟨by rw [wipeV_len, hl]; exact r.len, fun i u q => by
    by_cases e : i ∈ is
    · exact absurd q (wipeV_in e)
    · rw [wipeV_out e] at q
      obtain ⟨w, h1, h2⟩ := r.has i u q
      exact ⟨w, (h i e).symm.trans h1, h2⟩, r.own, r.bor, r.ex, r.ax, hm, r.ev, r.bk, r.ka⟩
theorem noOs_at {v : VL} {i : Nat} {u : U} : ∀ {is : List Nat}, noOs v is = true → i ∈ is → v[i]? = some (some u) → noO u = true
  | j :: is, h, m, e => by
    unfold noOs at h
    rw [Bool.and_eq_true] at h
    rcases List.mem_cons.mp m with rfl | m
    · have := h.1
      rw [e] at this
      exact this
    · exact noOs_at h.2 m e
theorem restV_len {v0 v : VL} : ∀ {is : List Nat}, (restV v0 v is).length = v.length
  | [] => rfl
  | i :: is => by simp [restV, restV_len]
theorem restV_out {v0 v : VL} {j : Nat} : ∀ {is : List Nat}, j ∉ is → (restV v0 v is)[j]? = v[j]?
  | [], _ => rfl
  | i :: is, h => by
    simp only [List.mem_cons, not_or] at h
    exact (set_out h.1).trans (restV_out h.2)
theorem restV_in {v0 v : VL} {j : Nat} {u : U} : ∀ {is : List Nat}, j ∈ is → (restV v0 v is)[j]? = some (some u) → v0[j]? = some (some u)
  | i :: is, h, e => by
    unfold restV at e
    by_cases q : j = i
    · subst q
      by_cases hi : j < (restV v0 v is).length
      · rw [List.getElem?_set_self hi] at e
        cases q : v0[j]? with
        | none => rw [q] at e; cases e
        | some o => rw [q] at e; exact e
      · rw [List.getElem?_eq_none (by simpa using hi)] at e; cases e
    · rw [set_out q] at e
      exact restV_in ((List.mem_cons.mp h).elim (fun z => absurd z q) id) e
/-- the comprehension's list so far -/
structure Acc (C : Ct) (s : S) (E K : Pr) (Fs : Nat → List Nat) (n : Nat) (us : List U) (ws : List W) (F : List Nat) : Prop where
  at_ : rd C.p s n = some (.lst ws)
  ds : Ds (rd C.p s) E nB us ws F
  nd : (n :: F).Nodup
  fr : ∀ a ∈ n :: F, E a ∧ ¬ K a ∧ ∀ i, a ∉ Fs i
theorem Ds.in {us : List U} {ws : List W} {F : List Nat} (h : Ds c E B us ws F) (q : us.all noB = true) {B' : Pr} : Ds c E B' us ws F := by
  induction h with
  | nil => exact .nil
  | cons d r ih =>
    simp only [List.all_cons, Bool.and_eq_true] at q
    exact .cons (d.noB q.1) (ih q.2)
theorem Ds.snoc {us : List U} {ws : List W} {F : List Nat} {u : U} {w : W} {F' : List Nat} (h : Ds c E B us ws F) (d : D c E B u w F') : Ds c E B (us ++ [u]) (ws ++ [w]) (F ++ F') := by
  induction h with
  | nil => have := Ds.cons d (.nil : Ds c E B [] [] []); rw [List.append_nil] at this; exact this
  | cons d' r ih => rw [List.append_assoc]; exact .cons d' ih
theorem lc_ok {ct : CC.CTg} {t : VL → RU Bool} {e : VL → RU U} {mt : Lo → S → R Bool} {me : Lo → S → R W} (hm : C.mp = none ∨ C.mi ∉ ct.slots) (ht : SimT C md t mt) (he : SimE C md e me) {d : ItD} {wsI : List W} {Sx : List Nat} {c0 : Cf} (al0 : ∀ a ∈ Sx, c0 a ≠ none)
    (hd : ∀ p s, (∀ a ∈ Sx, rd p s a = c0 a) → (∀ i : Nat, d.next p s i = some wsI[i]?) ∧ wsI.length ≤ d.cnt p s) (n : Nat) {l0 : Lo} {K B : Pr} : ∀ (us : List U) (i fuel : Nat) (s : S) (v : VL) (E : Pr) (Fs : Nat → List Nat) (ua : List U) (wa : List W) (Fa : List Nat), SL C md (rd C.p s) E K B v l0 Fs → Ds (rd C.p s) E B us (wsI.drop i) [] →
      (∀ a ∈ Sx, rd C.p s a = c0 a ∧ (¬ E a ∨ B a)) → Acc C s E K Fs n ua wa Fa → us.length < fuel → ∀ ys v', lcL ct t e us v = .ok ys v' → wa.length + ys.length ≤ 1000000 → ys.all noB = true →
      ∃ s' E' Fs' ws' Fa', CC.lcI C.p ct mt me d n fuel i l0 s = .ok (.ref n) s' ∧ Keep (rd C.p s) E K (rd C.p s') E' ∧ SL C md (rd C.p s') E' K B v' l0 Fs' ∧ Acc C s' E' K Fs' n (ua ++ ys) (wa ++ ws') Fa'
  | us, i, 0, s, v, E, Fs, ua, wa, Fa, r, ds, hs, ac, hf, ys, v', q, hl, hb => absurd hf (Nat.not_lt_zero _)
  | [], i, fuel + 1, s, v, E, Fs, ua, wa, Fa, r, ds, hs, ac, hf, ys, v', q, hl, hb => by
    cases q
    rcases ds.nil_of rfl with ⟨_, e⟩ | ⟨_, _, _, _, e, _⟩
    · have hi : wsI[i]? = none := by
        rw [List.getElem?_eq_none]
        have := congrArg List.length e
        simp at this; omega
      unfold CC.lcI
      rw [(hd C.p s fun a h => (hs a h).1).1 i, hi]
      exact ⟨s, E, Fs, [], Fa, rfl, .rfl', r, by rw [List.append_nil, List.append_nil]; exact ac⟩
    · cases e
  | u :: us, i, fuel + 1, s, v, E, Fs, ua, wa, Fa, r, ds, hs, ac, hf, ys, v', q, hl, hb => by
    rcases ds.nil_of rfl with ⟨e, _⟩ | ⟨u', w, us', ws', e1, e2, d1, d2⟩
    · cases e
    · cases e1
      have hi : wsI[i]? = some w := by
        have := congrArg (fun l => l[0]?) e2
        simpa [List.getElem?_drop] using this
      have e3 : wsI.drop (i + 1) = ws' := by
        rw [← List.drop_drop, e2]; rfl
      unfold CC.lcI
      rw [(hd C.p s fun a h => (hs a h).1).1 i, hi]
      dsimp only
      unfold lcL at q
      cases e4 : bindV u v ct with
      | none => rw [e4] at q; cases q
      | some v1 =>
        rw [e4] at q
        dsimp only at q
        obtain ⟨l1, Fs1, e5, r1, hl1, ho1, hF1⟩ := bind_ok hm r d1 e4
        rw [e5]
        dsimp only
        have fF : Fr (n :: Fa) K Fs1 := ⟨ac.nd, fun a m => ⟨(ac.fr a m).2.1, fun j z => (ac.fr a m).2.2 j (hF1 j a z)⟩⟩
        have r1' := r1.grow fF fun a m => ⟨by
          rcases List.mem_cons.mp m with rfl | m
          · rw [ac.at_]; simp
          · exact ac.ds.alive a m, (ac.fr a m).1⟩
        have sub : ∀ a, K a → kU K (n :: Fa) a := fun a h => .inl h
        have inn : ∀ a ∈ n :: Fa, kU K (n :: Fa) a := fun a h => .inr h
        have h3 := ht s l1 v1 E (kU K (n :: Fa)) B Fs1 r1'
        -- the list so far behind a part
        have keepA : ∀ {s2 E2 Fs2 v2}, Keep (rd C.p s) E (kU K (n :: Fa)) (rd C.p s2) E2 → SL C md (rd C.p s2) E2 (kU K (n :: Fa)) B v2 l1 Fs2 → Acc C s2 E2 K Fs2 n ua wa Fa := fun k2 r2 =>
          ⟨by rw [(k2.kp n (inn n (List.mem_cons_self ..))).1]; exact ac.at_, ac.ds.mono k2 (fun _ h => h.elim) fun a m => inn a (List.mem_cons_of_mem _ m), ac.nd, fun a m => ⟨(k2.kp a (inn a m)).2 (ac.fr a m).1, (ac.fr a m).2.1, fun j => r2.sep r.bk m (ac.fr a m).2.1 j⟩⟩
        have hsx : ∀ {s2 E2}, Keep (rd C.p s) E K (rd C.p s2) E2 → ∀ a ∈ Sx, rd C.p s2 a = c0 a ∧ (¬ E2 a ∨ B a) := fun k2 a h => by
          have := k2.at r.bk (a := a) ⟨by rw [(hs a h).1]; exact al0 a h, (hs a h).2⟩
          exact ⟨this.1.trans (hs a h).1, this.2⟩
        have hf' : us.length < fuel := by simp at hf; omega
        cases e6 : t v1 with
        | bad => rw [e6] at q; cases q
        | exc _ _ _ => rw [e6] at q; cases q
        | ok bt v2 =>
          rw [e6] at h3 q
          obtain ⟨bt', s2, E2, F, Fs2, e7, k2, r2, ⟨rfl, _⟩, _⟩ := h3
          rw [e7]
          cases bt with
          | false =>
            dsimp only at q
            dsimp only
            have r3 := (r2.weak sub r.bk).wipe (is := ct.slots) (l0 := l0) hl1.symm ho1 r.mpk
            obtain ⟨s', E', Fs', ws2, Fa', g1, g2, g3, g4⟩ := lc_ok hm ht he al0 hd n us (i + 1) fuel s2 _ E2 Fs2 ua wa Fa r3 (by rw [e3]; exact d2.mono (k2.weak sub) r.bk no) (hsx (k2.weak sub)) (keepA k2 r2) hf' ys v' q hl hb
            exact ⟨s', E', Fs', ws2, Fa', g1, (k2.weak sub).trans g2, g3, g4⟩
          | true =>
            dsimp only at q
            dsimp only
            have h4 := he s2 l1 v2 E2 (kU K (n :: Fa)) B Fs2 r2
            cases e8 : e v2 with
            | bad => rw [e8] at q; cases q
            | exc _ _ _ => rw [e8] at q; cases q
            | ok y v3 =>
              rw [e8] at h4 q
              obtain ⟨wy, s3, E3, F3, Fs3, e9, k3, r3, d3, f3⟩ := h4
              rw [e9]
              dsimp only at q
              dsimp only
              cases e10 : lcL ct t e us (wipeV v3 ct.slots) with
              | bad => rw [e10] at q; cases q
              | exc _ _ _ => rw [e10] at q; cases q
              | ok ys2 v4 =>
                rw [e10] at q
                cases q
                have kk := k2.trans k3
                have ac3 := keepA kk r3
                simp only [List.all_cons, Bool.and_eq_true, List.length_cons] at hb hl
                rw [ac3.at_]
                dsimp only
                rw [if_pos (by omega)]
                have na : rd C.p s3 n ≠ none := by rw [ac3.at_]; simp
                have ne := wr_ne (p := C.p) (s := s3) (n := n) (o := .lst (wa ++ [wy])) na
                have at4 := wr_at (p := C.p) (s := s3) (n := n) (o := .lst (wa ++ [wy])) na
                have nin : n ∉ Fa ++ F3 := fun m => (List.mem_append.mp m).elim (List.nodup_cons.mp ac.nd).1 fun m => (f3.2 n m).1 (inn n (List.mem_cons_self ..))
                have frn := ac3.fr n (List.mem_cons_self ..)
                have r4 := ((r3.weak sub r.bk).upd ne (by rw [at4]; simp) frn.1 frn.2.1 frn.2.2).wipe (is := ct.slots) (l0 := l0) hl1.symm ho1 r.mpk
                have k4 : Keep (rd C.p s) E K (rd C.p (wr C.p s3 n (.lst (wa ++ [wy])))) E3 := (kk.weak sub).trans (Keep.upd ne (by rw [at4]; simp) frn.1 frn.2.1)
                have ac4 : Acc C (wr C.p s3 n (.lst (wa ++ [wy]))) E3 K Fs3 n (ua ++ [y]) (wa ++ [wy]) (Fa ++ F3) := ⟨at4, (ac3.ds.snoc (d3.noB hb.1)).upd ne frn.1 id nin, by
                  refine List.nodup_cons.mpr ⟨nin, List.nodup_append.mpr ⟨(List.nodup_cons.mp ac.nd).2, f3.1, fun a h b h2 e => (f3.2 b h2).1 (inn b (List.mem_cons_of_mem _ (e ▸ h)))⟩⟩, fun a m => by
                  rcases List.mem_cons.mp m with rfl | m
                  · exact frn
                  · rcases List.mem_append.mp m with m | m
                    · exact ac3.fr a (List.mem_cons_of_mem _ m)
                    · exact ⟨d3.own a m, fun h => (f3.2 a m).1 (sub a h), (f3.2 a m).2⟩⟩
                obtain ⟨s', E', Fs', ws2, Fa', g1, g2, g3, g4⟩ := lc_ok hm ht he al0 hd n us (i + 1) fuel _ _ E3 Fs3 (ua ++ [y]) (wa ++ [wy]) (Fa ++ F3) r4 (by rw [e3]; exact d2.mono k4 r.bk no) (hsx k4) ac4 hf' ys2 v' e10 (by rw [List.length_append]; simp; omega) hb.2
                refine ⟨s', E', Fs', wy :: ws2, Fa', g1, k4.trans g2, g3, ?_⟩
                rw [List.append_assoc, List.append_assoc] at g4
                exact g4
theorem sim_lc {ct : CC.CTg} {mi : VL → RU (List U)} {mi' : Lo → S → R ItD} {t : VL → RU Bool} {e : VL → RU U} {mt : Lo → S → R Bool} {me : Lo → S → R W} (hm : C.mp = none ∨ C.mi ∉ ct.slots) (hi : Sim C md RIt mi mi') (ht : SimT C md t mt) (he : SimE C md e me) : SimE C md (eLc ct mi t e) (CC.eLc C.p ct mi' mt me) := fun s l vl E K B Fs r => by
  refine (hi s l vl E K B Fs r).bind r.bk fun us v1 d s2 E2 F Fs2 k2 r2 q f => ?_
  obtain ⟨_, wsI, Sx, ds, al0, hd⟩ := q
  split
  · rename_i hn
    cases e1 : lcL ct t e us (wipeV v1 ct.slots) with
    | bad => trivial
    | exc _ _ _ => trivial
    | ok ys v2 =>
      dsimp only
      split
      · rename_i hq
        have mp0 : ∀ w, C.mp = some w → (CC.wipeL l ct.slots)[C.mi]? = some (some w) := fun w e => by
          rcases hm with hm | hm
          · rw [hm] at e; cases e
          · rw [wipeL_out hm]; exact r2.mpk w e
        have r3 := (r2.ext (c1 := rd C.p (al s2 (.lst []))) ext_al none_al).wipe (is := ct.slots) (l0 := CC.wipeL l ct.slots) wipeL_len (fun j h => (wipeL_out h).symm) mp0
        have ac : Acc C (al s2 (.lst [])) E2 K Fs2 (nxt C.p s2) [] [] [] := ⟨rd_new, .nil, by simp, fun a m => by
          rw [List.mem_singleton.mp m]
          exact ⟨r2.ev _ rd_nxt, fun h => (r2.ka _ h).1 rd_nxt, fun i h => (r2.ex i _ h).1 rd_nxt⟩⟩
        obtain ⟨s', E', Fs', ws', Fa', g1, g2, g3, g4⟩ := lc_ok hm ht he (c0 := rd C.p s2) (fun a h => (al0 a h).1) hd (nxt C.p s2) us 0 (d.cnt C.p s2 + 1) _ _ E2 Fs2 [] [] [] r3 (by rw [List.drop_zero]; exact ds.ext ext_al) (fun a h => ⟨by
          cases q : rd C.p s2 a with
          | none => exact absurd q (al0 a h).1
          | some o => exact ext_al a o q, (al0 a h).2⟩) ac (by rw [ds.len]; exact Nat.lt_succ_of_le (hd C.p s2 fun a h => rfl).2) ys v2 e1 (by simpa using hq.1) hq.2
        rw [List.nil_append, List.nil_append] at g4
        have kk : Keep (rd C.p s2) E2 K (rd C.p s') E' := (Ext.keep ext_al r2.ka).trans g2
        obtain ⟨T, d0, t1, t2⟩ := g4.ds.to0 hq.2
        refine ⟨_, s', E', nxt C.p s2 :: Fa', fun i => if i ∈ ct.slots then [] else Fs' i, g1, k2.trans kk, ?_, ⟨T, [], .z (.own g4.at_ .lst d0), fun a m => (g4.fr a m).1, t2, no⟩, g4.nd, fun a m => ⟨(g4.fr a m).2.1, fun i => ?_⟩⟩
        · have sub : ∀ i a, a ∈ (if i ∈ ct.slots then [] else Fs' i) → a ∈ Fs' i := fun i a m => by
            split at m
            · cases m
            · exact m
          refine ⟨by rw [restV_len, g3.len, wipeL_len], fun i u h => ?_, fun m => ⟨fun i => ⟨?_, fun a h => ((g3.own m).1 i).2 a (sub i a h)⟩, fun i j a h h2 => (g3.own m).2 i j a (sub i a h) (sub j a h2)⟩, fun m i a h => g3.bor m i a (sub i a h), fun i a h => g3.ex i a (sub i a h), g3.ax, r2.mpk, g3.ev, g3.bk, g3.ka⟩
          · by_cases hi : i ∈ ct.slots
            · have h0 := restV_in hi h
              obtain ⟨w, h1, h2⟩ := r2.has i u h0
              have f0 := h2.noO (noOs_at hn hi h0)
              rw [f0] at h2
              rw [if_pos hi]
              exact ⟨w, h1, h2.mono kk r2.bk no⟩
            · rw [restV_out hi] at h
              obtain ⟨w, h1, h2⟩ := g3.has i u h
              rw [if_neg hi]
              exact ⟨w, (wipeL_out hi).symm.trans h1, h2⟩
          · split
            · exact List.nodup_nil
            · exact ((g3.own m).1 i).1
        · show a ∉ (if i ∈ ct.slots then [] else Fs' i)
          by_cases hi : i ∈ ct.slots
          · rw [if_pos hi]; simp
          · rw [if_neg hi]; exact (g4.fr a m).2.2 i
      · trivial
  · trivial
end
end CV
set_option Elab.async false
set_option linter.all false
set_option maxRecDepth 100000
/-! CV6: defs and calls -/
namespace CV
open PySem PySem.Spec PyProof.Rows L2
open CC (W Ob S Hh Lo R RS rd wr al nxt ItD)

/-- a def's end: its value; its first argument as it is left -/
inductive RF where
  | ok (u o : U) | exc (c : Nat) (u o : U) | bad
def AftF (mu : Option Nat) (c : Cf) (E K : Pr) (p : Hh) (ws : List W) (r : RF) (r' : R W) : Prop := match r with
  | .ok u o => ∃ w s E' F Fo, r' = .ok w s ∧ Keep c E K (rd p s) E' ∧ (∀ n, rd p s n = none → E' n) ∧ D (rd p s) E' nB u w F ∧ (F ++ Fo).Nodup ∧ (∀ a ∈ F ++ Fo, ¬ K a) ∧ (∀ j, mu = some j → ∃ w0, ws[j]? = some w0 ∧ D (rd p s) E' nB o w0 Fo)
  | .exc k u o => ∃ w s E' Fo, r' = .exc k w s ∧ Keep c E K (rd p s) E' ∧ (∀ n, rd p s n = none → E' n) ∧ D (rd p s) E' nB u w [] ∧ Fo.Nodup ∧ (∀ a ∈ Fo, ¬ K a) ∧ (∀ j, mu = some j → ∃ w0, ws[j]? = some w0 ∧ D (rd p s) E' nB o w0 Fo)
  | .bad => True
def SimF (mu : Option Nat) (F : List U → RF) (m : Hh → List W → R W) : Prop :=
  ∀ (p : Hh) (us : List U) (ws : List W) (E K B : Pr) (Fx : List Nat), Ds (rd p ⟨[], []⟩) E B us ws Fx → Fx.Nodup → (∀ a ∈ Fx, ¬ K a) → (∀ n, rd p ⟨[], []⟩ n = none → E n) → (∀ n, B n → K n) → (∀ n, K n → rd p ⟨[], []⟩ n ≠ none ∧ E n) →
    AftF mu (rd p ⟨[], []⟩) E K p ws (F us) (m p ws)
def outO (j : Nat) (v : VL) : Option U := match v[j]? with
  | some (some u) => if noB u then some u else none
  | _ => none
def fnV (np N : Nat) (b : VL → RSU) : List U → RF := fun us => if us.length = np then (match b (us.map some ++ List.replicate (N - us.length) none) with
  | .ret u _ => .ok u .non
  | .nx _ => .ok .non .non
  | .exc c u _ => .exc c u .non
  | _ => .bad) else .bad
def fnM (j np N : Nat) (b : VL → RSU) : List U → RF := fun us => if us.length = np then (match b (us.map some ++ List.replicate (N - us.length) none) with
  | .ret u v => (match outO j v with | some o => .ok u o | none => .bad)
  | .nx v => (match outO j v with | some o => .ok .non o | none => .bad)
  | .exc c u v => (match outO j v with | some o => .exc c u o | none => .bad)
  | _ => .bad) else .bad
section
variable {C : Ct} {md : Bool} {c c1 : Cf} {E E1 K K1 B : Pr} {l : Lo} {vl : VL} {s : S} {Fs : Nat → List Nat}
theorem Ds.split {us : List U} {ws : List W} {F : List Nat} (h : Ds c E B us ws F) (nd : F.Nodup) : ∃ Fs : Nat → List Nat, (∀ (i : Nat) (u : U), us[i]? = some u → ∃ w, ws[i]? = some w ∧ D c E B u w (Fs i)) ∧ (∀ i, (Fs i).Nodup) ∧ (∀ i a, a ∈ Fs i → a ∈ F) ∧ (∀ i j a, a ∈ Fs i → a ∈ Fs j → i = j) := by
  induction h with
  | nil => exact ⟨fun _ => [], fun i u h => by simp at h, fun _ => List.nodup_nil, fun i a h => by simp at h, fun i j a h => by simp at h⟩
  | @cons u w us ws F F' d r ih =>
    have nd2 := List.nodup_append.mp nd
    obtain ⟨Fs, h1, h2, h3, h4⟩ := ih nd2.2.1
    refine ⟨fun i => match i with | 0 => F | i + 1 => Fs i, fun i u' h => ?_, fun i => ?_, fun i a h => ?_, fun i j a h h' => ?_⟩
    · cases i with
      | zero => simp at h; subst h; exact ⟨w, rfl, d⟩
      | succ i =>
        obtain ⟨w', g1, g2⟩ := h1 i u' (by simpa using h)
        exact ⟨w', by simpa using g1, g2⟩
    · cases i with
      | zero => exact nd2.1
      | succ i => exact h2 i
    · cases i with
      | zero => exact List.mem_append_left _ h
      | succ i => exact List.mem_append_right _ (h3 i a h)
    · cases i with
      | zero =>
        cases j with
        | zero => rfl
        | succ j => exact absurd rfl (nd2.2.2 a h a (h3 j a h'))
      | succ i =>
        cases j with
        | zero => exact absurd rfl (nd2.2.2 a h' a (h3 i a h))
        | succ j => rw [h4 i j a h h']
/-- the slots at a def's beginning -/
theorem SL.start {C : Ct} {us : List U} {ws : List W} {F : List Nat} {N : Nat} (d : Ds (rd C.p ⟨[], []⟩) E B us ws F) (nd : F.Nodup) (hk : ∀ a ∈ F, ¬ K a) (ev : ∀ n, rd C.p ⟨[], []⟩ n = none → E n) (bk : ∀ n, B n → K n) (ka : ∀ n, K n → rd C.p ⟨[], []⟩ n ≠ none ∧ E n) (ha : C.aux = []) (hm : ∀ w, C.mp = some w → ws[C.mi]? = some w) :
    ∃ Fs, SL C true (rd C.p ⟨[], []⟩) E K B (us.map some ++ List.replicate (N - us.length) none) (ws.map some ++ List.replicate (N - ws.length) none) Fs := by
  obtain ⟨Fs, h1, h2, h3, h4⟩ := d.split nd
  refine ⟨Fs, by simp [d.len], fun i u h => ?_, fun _ => ⟨fun i => ⟨h2 i, fun a m => hk a (h3 i a m)⟩, h4⟩, fun m => (nomatch m), fun i a m => ⟨d.alive a (h3 i a m), d.own a (h3 i a m)⟩, fun u w m => absurd m (by rw [ha]; simp), fun w e => ?_, ev, bk, ka⟩
  · by_cases hi : i < us.length
    · rw [List.getElem?_append_left (by simpa using hi), List.getElem?_map] at h
      cases q : us[i]? with
      | none => rw [q] at h; cases h
      | some u' =>
        rw [q] at h
        cases h
        obtain ⟨w, g1, g2⟩ := h1 i u q
        refine ⟨w, ?_, g2⟩
        rw [List.getElem?_append_left (by simpa [← d.len] using hi), List.getElem?_map, g1]
        rfl
    · rw [List.getElem?_append_right (by simpa using Nat.le_of_not_lt hi)] at h
      have := List.eq_of_mem_replicate (List.mem_of_getElem? h)
      cases this
  · have g := hm w e
    have hi : C.mi < ws.length := (List.getElem?_eq_some_iff.mp g).1
    rw [List.getElem?_append_left (by simpa using hi), List.getElem?_map, g]
    rfl
theorem sim_fn {np N : Nat} {b : VL → RSU} {mb : Hh → Lo → S → RS} (h : ∀ C : Ct, C.mp = none → SimS C b (mb C.p)) : SimF none (fnV np N b) (CC.fnI np N mb) := fun p us ws E K B Fx d nd hk ev bk ka => by
  unfold fnV CC.fnI CC.fnI.fnB CC.gcS
  rw [← d.len]
  by_cases hl : us.length = np
  · rw [if_pos hl, if_pos hl]
    obtain ⟨Fs, r⟩ := SL.start (C := ⟨p, [], none, 0⟩) (N := N) d nd hk ev bk ka rfl (fun w e => (nomatch e))
    rw [← d.len] at r
    have q := h ⟨p, [], none, 0⟩ rfl _ _ _ E K B Fs r
    cases e : b (us.map some ++ List.replicate (N - us.length) none) with
    | ret u v =>
      rw [e] at q
      obtain ⟨w, l, s, E', F, Fs', e2, k, r2, d2, f⟩ := q
      rw [e2]
      exact ⟨w, s, E', F, [], rfl, k, r2.ev, d2, by simpa using f.1, fun a m => (f.2 a (by simpa using m)).1, fun j z => (nomatch z)⟩
    | nx v =>
      rw [e] at q
      obtain ⟨l, s, E', Fs', e2, k, r2⟩ := q
      rw [e2]
      exact ⟨.non, s, E', [], [], rfl, k, r2.ev, d_non, by simp, no, fun j z => (nomatch z)⟩
    | exc k u v =>
      rw [e] at q
      obtain ⟨w, l, s, E', Fs', e2, k, r2, d2⟩ := q
      rw [e2]
      exact ⟨w, s, E', [], rfl, k, r2.ev, d2, by simp, no, fun j z => (nomatch z)⟩
    | brk v => trivial
    | ct v => trivial
    | bad => trivial
  · rw [if_neg hl]; trivial
theorem outO_ok {C : Ct} {v : VL} {o : U} (h : outO C.mi v = some o) (r : SL C true c E K B v l Fs) {w0 : W} (e : C.mp = some w0) : D c E nB o w0 (Fs C.mi) := by
  unfold outO at h
  split at h
  · rename_i u0 hu
    split at h
    · rename_i q
      cases h
      obtain ⟨w, h1, h2⟩ := r.has C.mi _ hu
      rw [r.mpk w0 e] at h1
      cases h1
      exact h2.noB q
    · cases h
  · cases h
theorem sim_fnM {j np N : Nat} {b : VL → RSU} {mb : Hh → Lo → S → RS} (h0 : j < np) (h : ∀ C : Ct, C.mi = j → SimS C b (mb C.p)) : SimF (some j) (fnM j np N b) (CC.fnI np N mb) := fun p us ws E K B Fx d nd hk ev bk ka => by
  unfold fnM CC.fnI CC.fnI.fnB CC.gcS
  rw [← d.len]
  by_cases hl : us.length = np
  · rw [if_pos hl, if_pos hl]
    obtain ⟨Fs, r⟩ := SL.start (C := ⟨p, [], ws[j]?, j⟩) (N := N) d nd hk ev bk ka rfl (fun w e => e)
    rw [← d.len] at r
    have q := h ⟨p, [], ws[j]?, j⟩ rfl _ _ _ E K B Fs r
    have hw : ∀ {v l c E Fs o}, outO j v = some o → SL ⟨p, [], ws[j]?, j⟩ true c E K B v l Fs → ∀ i, some j = some i → ∃ w0, ws[i]? = some w0 ∧ D c E nB o w0 (Fs j) := fun {v l c E Fs o} ho r i ei => by
      cases ei
      cases e : ws[j]? with
      | some w0 => exact ⟨w0, rfl, outO_ok (C := ⟨p, [], ws[j]?, j⟩) ho r e⟩
      | none =>
        have := List.getElem?_eq_none_iff.mp e
        have := d.len
        omega
    cases e : b (us.map some ++ List.replicate (N - us.length) none) with
    | ret u v =>
      rw [e] at q
      obtain ⟨w, l, s, E', F, Fs', e2, k, r2, d2, f⟩ := q
      rw [e2]
      dsimp only
      cases e3 : outO j v with
      | none => trivial
      | some o =>
        have o0 := (r2.own rfl).1 j
        exact ⟨w, s, E', F, Fs' j, rfl, k, r2.ev, d2, List.nodup_append.mpr ⟨f.1, o0.1, fun a h b h2 e => (f.2 a h).2 j (e ▸ h2)⟩, fun a m => (List.mem_append.mp m).elim (fun m => (f.2 a m).1) (o0.2 a), hw e3 r2⟩
    | nx v =>
      rw [e] at q
      obtain ⟨l, s, E', Fs', e2, k, r2⟩ := q
      rw [e2]
      dsimp only
      cases e3 : outO j v with
      | none => trivial
      | some o =>
        have o0 := (r2.own rfl).1 j
        exact ⟨.non, s, E', [], Fs' j, rfl, k, r2.ev, d_non, o0.1, o0.2, hw e3 r2⟩
    | exc k u v =>
      rw [e] at q
      obtain ⟨w, l, s, E', Fs', e2, k, r2, d2⟩ := q
      rw [e2]
      dsimp only
      cases e3 : outO j v with
      | none => trivial
      | some o =>
        have o0 := (r2.own rfl).1 j
        exact ⟨w, s, E', Fs' j, rfl, k, r2.ev, d2, o0.1, o0.2, hw e3 r2⟩
    | brk v => trivial
    | ct v => trivial
    | bad => trivial
  · rw [if_neg hl]; trivial
/-- who does not ask how the argument is left -/
def loseO (F : List U → RF) : List U → RF := fun us => match F us with
  | .ok u _ => .ok u .non
  | .exc c u _ => .exc c u .non
  | .bad => .bad
theorem simF_lose {mu : Option Nat} {F : List U → RF} {m : Hh → List W → R W} (h : SimF mu F m) : SimF none (loseO F) m := fun p us ws E K B Fx d nd hk ev bk ka => by
  have q := h p us ws E K B Fx d nd hk ev bk ka
  unfold loseO
  cases e : F us with
  | ok u o =>
    rw [e] at q
    obtain ⟨w, s, E', F', Fo, e2, k, ev', d2, nd2, nk, _⟩ := q
    exact ⟨w, s, E', F', [], e2, k, ev', d2, by rw [List.append_nil]; exact (List.nodup_append.mp nd2).1, fun a m => nk a (List.mem_append_left _ (by simpa using m)), fun j z => (nomatch z)⟩
  | exc k u o =>
    rw [e] at q
    obtain ⟨w, s, E', Fo, e2, k, ev', d2, _⟩ := q
    exact ⟨w, s, E', [], e2, k, ev', d2, List.nodup_nil, no, fun j z => (nomatch z)⟩
  | bad => trivial
end
section
variable {C : Ct} {md : Bool} {c c1 : Cf} {E E1 K K1 B : Pr} {l : Lo} {vl : VL} {s : S} {Fs : Nat → List Nat}
/-! ### calls -/
theorem SL.after {E1 : Pr} (r : SL C md c E K B vl l Fs) (k : Keep c E (fun n => K n ∨ ∃ i, n ∈ Fs i) c1 E1) (ev : ∀ n, c1 n = none → E1 n) : SL C md c1 E1 K B vl l Fs :=
  ⟨r.len, fun i u h => by
    obtain ⟨w, h1, h2⟩ := r.has i u h
    exact ⟨w, h1, h2.mono k (fun n h => .inl (r.bk n h)) fun a m => .inr ⟨i, m⟩⟩, r.own, r.bor, fun i a h => ⟨k.al a (r.ex i a h).1, (k.kp a (.inr ⟨i, h⟩)).2 (r.ex i a h).2⟩, fun u w h => (r.ax u w h).mono k (fun n h => .inl (r.bk n h)) no, r.mpk, ev, r.bk, fun n h => ⟨k.al n (r.ka n h).1, (k.kp n (.inl h)).2 (r.ka n h).2⟩⟩
def ofF (r : RF) (v : VL) : RU U := match r with
  | .ok u _ => .ok u v
  | .exc c u _ => .exc c u v
  | .bad => .bad
theorem mat_fun {p : Hh} {s : S} : rd (CC.mat p s) ⟨[], []⟩ = rd p s := funext fun n => CC.rd_mat
theorem mrg_fun {p : Hh} {s s' : S} : rd p (CC.mrg p s s') = rd (CC.mat p s) s' := funext fun n => CC.rd_mrg
/-- a call from (K, the slots kept) -/
theorem callF_ok {F : List U → RF} {m : Hh → List W → R W} (hF : SimF none F m) {us : List U} {ws : List W} {Fx : List Nat} {v : VL} (r : SL C md (rd C.p s) E K B v l Fs) (d : Ds (rd C.p s) E B us ws Fx) (f : Fr Fx K Fs) : Aft C md (rd C.p s) E K B l D (ofF (F us) v) (CC.callF m C.p ws s) := by
  have q := hF (CC.mat C.p s) us ws E (fun n => K n ∨ ∃ i, n ∈ Fs i) B Fx (by rw [mat_fun]; exact d) f.1 (fun a m h => h.elim (f.2 a m).1 fun ⟨i, h⟩ => (f.2 a m).2 i h) (by rw [mat_fun]; exact r.ev) (fun n h => .inl (r.bk n h)) (by rw [mat_fun]; exact fun n h => h.elim (r.ka n) fun ⟨i, h⟩ => r.ex i n h)
  rw [mat_fun] at q
  unfold CC.callF
  cases e : F us with
  | ok u o =>
    rw [e] at q
    obtain ⟨w, s', E', F', Fo, e2, k, ev, d2, nd, nk, _⟩ := q
    rw [e2]
    have nd1 := (List.nodup_append.mp nd).1
    refine ⟨w, CC.mrg C.p s s', E', F', Fs, rfl, ?_⟩
    rw [mrg_fun]
    exact ⟨k.weak fun n h => .inl h, r.after k ev, d2.in (fun _ h => h.elim), nd1, fun a m => ⟨fun h => nk a (List.mem_append_left _ m) (.inl h), fun i h => nk a (List.mem_append_left _ m) (.inr ⟨i, h⟩)⟩⟩
  | exc k u o =>
    rw [e] at q
    obtain ⟨w, s', E', Fo, e2, k, ev, d2, _⟩ := q
    rw [e2]
    refine ⟨w, CC.mrg C.p s s', E', Fs, rfl, ?_⟩
    rw [mrg_fun]
    exact ⟨k.weak fun n h => .inl h, r.after k ev, d2⟩
  | bad => trivial
end
def eCall (F : List U → RF) (ds : List U) (mr : VL → RU (List U)) : VL → RU U := fun v => (mr v).bind fun us v1 => ofF (F (us ++ ds)) v1
def isCU (k : Nat) : U → Bool
  | .ins _ d _ => d == k
  | _ => false
def eMeth (k : Nat) (F : List U → RF) (ds : List U) (mo : VL → RU U) (mr : VL → RU (List U)) : VL → RU U := fun v => (mo v).bind fun o v1 => match isCU k o with
  | true => (mr v1).bind fun us v2 => ofF (F (o :: (us ++ ds))) v2
  | false => .bad
/-- the first argument is the variable i, and it is written -/
def backM (i : Nat) (r : RF) (v : VL) : RU U := match r with
  | .ok u o => .ok u (v.set i (some o))
  | .exc c u o => .exc c u (v.set i (some o))
  | .bad => .bad
def eCallM (i : Nat) (F : List U → RF) (ds : List U) (mr : VL → RU (List U)) : VL → RU U := fun v => match v[i]? with
  | some (some _) => (mr v).bind fun us v1 => (match v1[i]? with
    | some (some o) => backM i (F (o :: (us ++ ds))) v1
    | _ => .bad)
  | _ => .bad
/-- the second argument is the variable i, and it is written -/
def eCallM1 (i : Nat) (F : List U → RF) (ds : List U) (m0 : VL → RU U) (mr : VL → RU (List U)) : VL → RU U := fun v => (m0 v).bind fun x v0 => match v0[i]? with
  | some (some _) => (mr v0).bind fun us v1 => (match v1[i]? with
    | some (some o) => backM i (F (x :: o :: (us ++ ds))) v1
    | _ => .bad)
  | _ => .bad
def eMethM (k i : Nat) (F : List U → RF) (ds : List U) (mr : VL → RU (List U)) : VL → RU U := fun v => match v[i]? with
  | some (some o) => if isCU k o then eCallM i F ds mr v else .bad
  | _ => .bad
def makeO (r : RF) (v : VL) : RU U := match r with
  | .ok .non o => .ok o v
  | .exc c u _ => .exc c u v
  | _ => .bad
def eMakeM (k : Nat) (F : List U → RF) (ds : List U) (mr : VL → RU (List U)) : VL → RU U := fun v => (mr v).bind fun us v1 => makeO (F (.ins .o k [] :: (us ++ ds))) v1
def DsC (ds : List U) (dw : List W) : Prop := ∀ c E B, Ds c E B ds dw []
theorem dsc_nil : DsC [] [] := fun _ _ _ => .nil
theorem dsc_int {i : Int} {ds : List U} {dw : List W} (h : DsC ds dw) : DsC (.int i :: ds) (.int i :: dw) := fun c E B => .cons (F := []) d_int (h c E B)
section
variable {C : Ct} {md : Bool} {c c1 : Cf} {E E1 K K1 B : Pr} {l : Lo} {vl : VL} {s : S} {Fs : Nat → List Nat}
theorem Ds.app {us us' : List U} {ws ws' : List W} {F F' : List Nat} (h : Ds c E B us ws F) (h' : Ds c E B us' ws' F') : Ds c E B (us ++ us') (ws ++ ws') (F ++ F') := by
  induction h with
  | nil => exact h'
  | cons d r ih => rw [List.append_assoc]; exact .cons d ih
theorem sim_call {F : List U → RF} {m : Hh → List W → R W} {ds : List U} {dw : List W} {a : VL → RU (List U)} {ma : Lo → S → R (List W)} (hF : SimF none F m) (hd : DsC ds dw) (ha : SimA C md a ma) : SimE C md (eCall F ds a) (CC.eCall m C.p dw ma) := fun s l vl E K B Fs r => by
  refine (ha s l vl E K B Fs r).bind r.bk fun us v ws s2 E2 F1 Fs2 k2 r2 d f => ?_
  have d2 := d.app (hd (rd C.p s2) E2 B)
  rw [List.append_nil] at d2
  exact (callF_ok hF r2 d2 f).then k2
theorem D.isC {k : Nat} {u : U} {w : W} {F : List Nat} (d : D (rd C.p s) E B u w F) (h : isCU k u = true) : CC.isC C.p s k w = true := by
  cases u with
  | ins z k' fs =>
    rcases d.node with h | ⟨_, h⟩ | ⟨_, h⟩ | ⟨_, h⟩ | ⟨_, h⟩ | ⟨z', us', n, ob, ws, F0, T0, rfl, e, q, r, f⟩ <;> first | cases h | skip
    cases q
    unfold CC.isC
    dsimp only
    rw [e]
    exact h
  | _ => cases h
theorem sim_meth {k : Nat} {F : List U → RF} {m : Hh → List W → R W} {ds : List U} {dw : List W} {o : VL → RU U} {mo : Lo → S → R W} {a : VL → RU (List U)} {ma : Lo → S → R (List W)} (hF : SimF none F m) (hd : DsC ds dw) (ho : SimE C md o mo) (ha : SimA C md a ma) : SimE C md (eMeth k F ds o a) (CC.eMeth k m C.p dw mo ma) := fun s l vl E K B Fs r => by
  refine (ho s l vl E K B Fs r).bind r.bk fun x v1 wx s1 E1 F1 Fs1 k1 r1 d1 f1 => ?_
  cases q : isCU k x with
  | false => trivial
  | true =>
    rw [d1.isC q]
    dsimp only
    refine (ha s1 l v1 E1 (kU K F1) B Fs1 (r1.grow f1 (rmD.al d1))).bindK k1 (fun n h => .inl h) r.bk fun us v2 ws s2 E2 F2 Fs2 k2 r2 d2 f2 => ?_
    have d3 := d2.app (hd (rd C.p s2) E2 B)
    rw [List.append_nil] at d3
    refine (callF_ok hF (r2.weak (fun n h => .inl h) r.bk) (.cons (d1.mono k2 r2.bk fun a m => .inr m) d3) ⟨?_, fun a m => ?_⟩).then (k1.trans (k2.weak fun n h => .inl h))
    · exact List.nodup_append.mpr ⟨f1.1, f2.1, fun a h b h2 e => (f2.2 b h2).1 (.inr (e ▸ h))⟩
    · rcases List.mem_append.mp m with m | m
      · exact ⟨(f1.2 a m).1, fun i => r2.sep r.bk m (f1.2 a m).1 i⟩
      · exact ⟨fun h => (f2.2 a m).1 (.inl h), (f2.2 a m).2⟩
/-- the call of a def that writes the variable i, its first argument -/
theorem callM_ok {j0 : Nat} {F : List U → RF} {m : Hh → List W → R W} (hF : SimF (some j0) F m) {i : Nat} {o : U} {w0 : W} {pre us : List U} {wpre ws : List W} {Fp Fx : List Nat} {v : VL} (hj : pre.length = j0) (r : SL C true (rd C.p s) E K B v l Fs) (ho : v[i]? = some (some o)) (hw : l[i]? = some (some w0)) (dp : Ds (rd C.p s) E B pre wpre Fp) (d : Ds (rd C.p s) E B us ws Fx) (f : Fr (Fp ++ Fx) K Fs) : Aft C true (rd C.p s) E K B l D (backM i (F (pre ++ o :: us)) v) (CC.callF m C.p (wpre ++ w0 :: ws) s) := by
  obtain ⟨w, h1, h2⟩ := r.has i o ho
  rw [hw] at h1
  cases h1
  have oi := (r.own rfl).1 i
  have fn := List.nodup_append.mp f.1
  have hwj : (wpre ++ w0 :: ws)[j0]? = some w0 := by
    rw [List.getElem?_append_right (by rw [← dp.len, hj]; exact Nat.le_refl _), ← dp.len, hj]; simp
  have od : ∀ j, j ≠ i → ∀ a, a ∈ Fs j → a ∉ Fs i := fun j e a h h2 => e ((r.own rfl).2 j i a h h2)
  have q := hF (CC.mat C.p s) (pre ++ o :: us) (wpre ++ w0 :: ws) E (fun n => K n ∨ ∃ j, j ≠ i ∧ n ∈ Fs j) B (Fp ++ (Fs i ++ Fx)) (by rw [mat_fun]; exact dp.app (.cons h2 d)) (List.nodup_append.mpr ⟨fn.1, List.nodup_append.mpr ⟨oi.1, fn.2.1, fun a h b h2 e => (f.2 b (List.mem_append_right _ h2)).2 i (e ▸ h)⟩, fun a h b h2 e => (List.mem_append.mp h2).elim (fun h2 => (f.2 a (List.mem_append_left _ h)).2 i (e ▸ h2)) fun h2 => fn.2.2 a h b h2 e⟩)
    (fun a m h => by
      rcases List.mem_append.mp m with m | m
      · exact h.elim (f.2 a (List.mem_append_left _ m)).1 fun ⟨j, e, h⟩ => (f.2 a (List.mem_append_left _ m)).2 j h
      rcases List.mem_append.mp m with m | m
      · exact h.elim (oi.2 a m) fun ⟨j, e, h⟩ => od j e a h m
      · exact h.elim (f.2 a (List.mem_append_right _ m)).1 fun ⟨j, e, h⟩ => (f.2 a (List.mem_append_right _ m)).2 j h) (by rw [mat_fun]; exact r.ev) (fun n h => .inl (r.bk n h)) (by rw [mat_fun]; exact fun n h => h.elim (r.ka n) fun ⟨j, _, h⟩ => r.ex j n h)
  rw [mat_fun] at q
  -- without the slot i
  have r0 := r.put i none w0 l rfl (fun _ _ => rfl) (fun u z => (nomatch z)) r.mpk List.nodup_nil no
  have fs0 : ∀ n, (∃ j, n ∈ upF Fs i [] j) → ∃ j, j ≠ i ∧ n ∈ Fs j := fun n ⟨j, h⟩ => by
    by_cases e : j = i
    · rw [e, upF_same] at h; cases h
    · rw [upF_ne e] at h; exact ⟨j, e, h⟩
  have back : ∀ {c2 : Cf} {E2 : Pr} {o' : U} {Fo : List Nat}, Keep (rd C.p s) E (fun n => K n ∨ ∃ j, j ≠ i ∧ n ∈ Fs j) c2 E2 → (∀ n, c2 n = none → E2 n) → D c2 E2 nB o' w0 Fo → Fo.Nodup → (∀ a ∈ Fo, ¬ (K a ∨ ∃ j, j ≠ i ∧ a ∈ Fs j)) → SL C true c2 E2 K B (v.set i (some o')) l (upF (upF Fs i []) i Fo) := fun {c2 E2 o' Fo} k ev d' nd nk => by
    have r1 := r0.after (k.weak fun n h => h.imp id (fs0 n)) ev
    have r2 := r1.put i (some o') w0 l rfl (fun _ _ => rfl) (fun u z _ => by cases z; exact ⟨hw, d'.in fun _ h => h.elim⟩) r.mpk nd fun a m => ⟨d'.alive a m, d'.own a m, fun _ => ⟨fun h => nk a m (.inl h), fun j e h => nk a m (.inr (fs0 a ⟨j, h⟩))⟩, fun z => (nomatch z)⟩
    rw [List.set_set] at r2
    exact r2
  unfold CC.callF
  cases e : F (pre ++ o :: us) with
  | ok u o' =>
    rw [e] at q
    obtain ⟨w, s', E', F', Fo, e2, k, ev, d2, nd, nk, hm⟩ := q
    obtain ⟨w1, e3, dO⟩ := hm _ rfl
    rw [hwj] at e3
    cases e3
    rw [e2]
    have nd1 := List.nodup_append.mp nd
    refine ⟨w, CC.mrg C.p s s', E', F', upF (upF Fs i []) i Fo, rfl, ?_⟩
    rw [mrg_fun]
    refine ⟨k.weak fun n h => .inl h, back k ev dO nd1.2.1 (fun a m => nk a (List.mem_append_right _ m)), d2.in (fun _ h => h.elim), nd1.1, fun a m => ⟨fun h => nk a (List.mem_append_left _ m) (.inl h), fun j h => ?_⟩⟩
    by_cases e : j = i
    · rw [e, upF_same] at h; exact nd1.2.2 a m a h rfl
    · rw [upF_ne e] at h
      exact nk a (List.mem_append_left _ m) (.inr (fs0 a ⟨j, h⟩))
  | exc k u o' =>
    rw [e] at q
    obtain ⟨w, s', E', Fo, e2, k, ev, d2, nd, nk, hm⟩ := q
    obtain ⟨w1, e3, dO⟩ := hm _ rfl
    rw [hwj] at e3
    cases e3
    rw [e2]
    refine ⟨w, CC.mrg C.p s s', E', upF (upF Fs i []) i Fo, rfl, ?_⟩
    rw [mrg_fun]
    exact ⟨k.weak fun n h => .inl h, back k ev dO nd nk, d2⟩
  | bad => trivial
theorem sim_callM {i : Nat} {F : List U → RF} {m : Hh → List W → R W} {ds : List U} {dw : List W} {a : VL → RU (List U)} {ma : Lo → S → R (List W)} (hF : SimF (some 0) F m) (hd : DsC ds dw) (ha : SimA C true a ma) : SimE C true (eCallM i F ds a) (CC.eCall m C.p dw (CC.aCons (CC.eVar i) ma)) := fun s l vl E K B Fs r => by
  unfold eCallM
  split
  · rename_i o0 ho0
    obtain ⟨w0, hw, _⟩ := r.has i o0 ho0
    have e4 : CC.eCall m C.p dw (CC.aCons (CC.eVar i) ma) l s = (ma l s).bind fun ws s2 => CC.callF m C.p (w0 :: (ws ++ dw)) s2 := by
      unfold CC.eCall CC.aCons
      rw [var_ok hw]
      show ((ma l s).bind _).bind _ = _
      cases ma l s <;> rfl
    rw [e4]
    refine (ha s l vl E K B Fs r).bind r.bk fun us v ws s2 E2 F1 Fs2 k2 r2 d f => ?_
    split
    · rename_i o ho
      have d3 := d.app (hd (rd C.p s2) E2 B)
      rw [List.append_nil] at d3
      exact (callM_ok (pre := []) (wpre := []) (Fp := []) hF rfl r2 ho hw .nil d3 f).then k2
    · trivial
  · trivial
theorem sim_callM1 {i : Nat} {F : List U → RF} {m : Hh → List W → R W} {ds : List U} {dw : List W} {b : VL → RU U} {mb : Lo → S → R W} {a : VL → RU (List U)} {ma : Lo → S → R (List W)} (hF : SimF (some 1) F m) (hd : DsC ds dw) (hb : SimE C true b mb) (ha : SimA C true a ma) : SimE C true (eCallM1 i F ds b a) (CC.eCall m C.p dw (CC.aCons mb (CC.aCons (CC.eVar i) ma))) := fun s l vl E K B Fs r => by
  have e4 : CC.eCall m C.p dw (CC.aCons mb (CC.aCons (CC.eVar i) ma)) l s = (mb l s).bind fun wx s1 => (CC.eVar i l s1).bind fun w0 s2 => (ma l s2).bind fun ws s3 => CC.callF m C.p (wx :: w0 :: (ws ++ dw)) s3 := by
    unfold CC.eCall CC.aCons
    cases mb l s with
    | ok wx s1 =>
      show CC.R.bind (CC.R.bind (CC.R.bind (CC.eVar i l s1) _) _) _ = CC.R.bind (CC.eVar i l s1) _
      cases CC.eVar i l s1 with
      | ok w0 s2 =>
        show CC.R.bind (CC.R.bind (CC.R.bind (ma l s2) _) _) _ = CC.R.bind (ma l s2) _
        cases ma l s2 <;> rfl
      | exc _ _ _ => rfl
      | bad => rfl
    | exc _ _ _ => rfl
    | bad => rfl
  rw [e4]
  refine (hb s l vl E K B Fs r).bind r.bk fun x v1 wx s1 E1 F1 Fs1 k1 r1 d1 f1 => ?_
  split
  · rename_i o0 ho0
    obtain ⟨w0, hw, _⟩ := r1.has i o0 ho0
    rw [var_ok hw]
    show Aft C true _ E K B l D _ ((ma l s1).bind _)
    refine (ha s1 l v1 E1 (kU K F1) B Fs1 (r1.grow f1 (rmD.al d1))).bindK k1 (fun n h => .inl h) r.bk fun us v2 ws s2 E2 F2 Fs2 k2 r2 d2 f2 => ?_
    split
    · rename_i o ho
      have d3 := d2.app (hd (rd C.p s2) E2 B)
      rw [List.append_nil] at d3
      have dx : Ds (rd C.p s2) E2 B [x] [wx] F1 := by
        have := Ds.cons (d1.mono k2 r2.bk fun a m => .inr m) (.nil : Ds (rd C.p s2) E2 B [] [] [])
        rw [List.append_nil] at this
        exact this
      refine (callM_ok (pre := [x]) (wpre := [wx]) hF rfl (r2.weak (fun n h => .inl h) r.bk) ho hw dx d3 ⟨?_, fun a m => ?_⟩).then (k1.trans (k2.weak fun n h => .inl h))
      · exact List.nodup_append.mpr ⟨f1.1, f2.1, fun a h b h2 e => (f2.2 b h2).1 (.inr (e ▸ h))⟩
      · rcases List.mem_append.mp m with m | m
        · exact ⟨(f1.2 a m).1, fun i => r2.sep r.bk m (f1.2 a m).1 i⟩
        · exact ⟨fun h => (f2.2 a m).1 (.inl h), (f2.2 a m).2⟩
    · trivial
  · trivial
theorem sim_methM {k i : Nat} {F : List U → RF} {m : Hh → List W → R W} {ds : List U} {dw : List W} {a : VL → RU (List U)} {ma : Lo → S → R (List W)} (hF : SimF (some 0) F m) (hd : DsC ds dw) (ha : SimA C true a ma) : SimE C true (eMethM k i F ds a) (CC.eMeth k m C.p dw (CC.eVar i) ma) := fun s l vl E K B Fs r => by
  have h := sim_callM (i := i) hF hd ha s l vl E K B Fs r
  unfold eMethM
  split
  · rename_i o ho
    split
    · rename_i q
      obtain ⟨w0, hw, d0⟩ := r.has i o ho
      have e : CC.eMeth k m C.p dw (CC.eVar i) ma l s = CC.eCall m C.p dw (CC.aCons (CC.eVar i) ma) l s := by
        unfold CC.eMeth CC.eCall CC.aCons
        rw [var_ok hw]
        show (match CC.isC C.p s k w0 with | true => _ | false => _) = ((ma l s).bind _).bind _
        rw [d0.isC q]
        dsimp only
        cases ma l s <;> rfl
      rw [e]
      exact h
    · trivial
  · trivial
theorem sim_makeM {k : Nat} {F : List U → RF} {m : Hh → List W → R W} {ds : List U} {dw : List W} {a : VL → RU (List U)} {ma : Lo → S → R (List W)} (hF : SimF (some 0) F m) (hd : DsC ds dw) (ha : SimA C md a ma) : SimE C md (eMakeM k F ds a) (CC.eMakeM k m C.p dw ma) := fun s l vl E K B Fs r => by
  refine (ha s l vl E K B Fs r).bind r.bk fun us v ws s2 E2 F1 Fs2 k2 r2 d f => ?_
  have d2 := d.app (hd (rd C.p s2) E2 B)
  rw [List.append_nil] at d2
  -- the new object
  generalize hs3 : al s2 (.ins k []) = s3
  have x3 : Ext (rd C.p s2) (rd C.p s3) := by rw [← hs3]; exact ext_al
  have n3 : ∀ n, rd C.p s3 n = none → rd C.p s2 n = none := by rw [← hs3]; exact none_al
  have r3 := r2.ext x3 n3
  have a3 : rd C.p s3 (nxt C.p s2) = some (.ins k []) := by rw [← hs3]; exact rd_new
  have en : E2 (nxt C.p s2) := r2.ev _ rd_nxt
  have d0 : D (rd C.p s3) E2 B (.ins .o k []) (.ref (nxt C.p s2)) [nxt C.p s2] := ⟨[], [], .z (.own a3 (.ins rfl) .nil), fun a m => by rw [List.mem_singleton.mp m]; exact en, no, no⟩
  have q := hF (CC.mat C.p s3) (.ins .o k [] :: (us ++ ds)) (.ref (nxt C.p s2) :: (ws ++ dw)) E2 (fun n => K n ∨ ∃ i, n ∈ Fs2 i) B ([nxt C.p s2] ++ F1) (by rw [mat_fun]; exact .cons d0 (d2.ext x3))
    (List.nodup_append.mpr ⟨by simp, f.1, fun a h b h2 e => by
      rw [List.mem_singleton.mp h] at e
      exact d.alive b h2 (e ▸ rd_nxt)⟩)
    (fun a m h => by
      rcases List.mem_append.mp m with m | m
      · rw [List.mem_singleton.mp m] at h
        exact h.elim (fun h => (r2.ka _ h).1 rd_nxt) fun ⟨i, h⟩ => (r2.ex i _ h).1 rd_nxt
      · exact h.elim (f.2 a m).1 fun ⟨i, h⟩ => (f.2 a m).2 i h) (by rw [mat_fun]; exact r3.ev) (fun n h => .inl (r.bk n h)) (by rw [mat_fun]; exact fun n h => h.elim (r3.ka n) fun ⟨i, h⟩ => r3.ex i n h)
  rw [mat_fun] at q
  have k3 := k2.trans (x3.keep r2.ka)
  unfold CC.makeM CC.callF
  rw [hs3]
  cases e : F (.ins .o k [] :: (us ++ ds)) with
  | ok u o' =>
    rw [e] at q
    cases u with
    | non =>
      obtain ⟨w, s', E', F', Fo, e2, kk, ev, dv, nd, nk, hm⟩ := q
      obtain ⟨w1, e3, dO⟩ := hm _ rfl
      cases e3
      obtain rfl := dv.is_non
      rw [e2]
      have nd1 := List.nodup_append.mp nd
      refine ⟨.ref (nxt C.p s2), CC.mrg C.p s3 s', E', Fo, Fs2, rfl, ?_⟩
      rw [mrg_fun]
      exact ⟨k3.trans (kk.weak fun n h => .inl h), r3.after kk ev, dO.in fun _ h => h.elim, nd1.2.1, fun a m => ⟨fun h => nk a (List.mem_append_right _ m) (.inl h), fun i h => nk a (List.mem_append_right _ m) (.inr ⟨i, h⟩)⟩⟩
    | _ => trivial
  | exc k u o' =>
    rw [e] at q
    obtain ⟨w, s', E', Fo, e2, kk, ev, dv, _⟩ := q
    rw [e2]
    refine ⟨w, CC.mrg C.p s3 s', E', Fs2, rfl, ?_⟩
    rw [mrg_fun]
    exact ⟨k3.trans (kk.weak fun n h => .inl h), r3.after kk ev, dv⟩
  | bad => trivial
end
end CV
set_option Elab.async false
set_option linter.all false
set_option maxRecDepth 100000
/-! CV7: operators and built-ins that write nothing -/
namespace CV
open PySem PySem.Spec PyProof.Rows L2
open CC (W Ob S Hh Lo R RS rd wr al nxt ItD i64 mapO)

/-! ### scalars -/
def isSc : U → Option W
  | .non => some .non
  | .bl b => some (.bl b)
  | .int i => some (.int i)
  | .str z => some (.str z)
  | _ => none
theorem sc_d {c : Cf} {E B : Pr} {u : U} {w : W} (h : isSc u = some w) : D c E B u w [] := by
  cases u with
  | non => cases h; exact d_non
  | bl b => cases h; exact d_bl
  | int i => cases h; exact d_int
  | str z => cases h; exact d_str
  | _ => cases h
theorem sc_w {c : Cf} {E B : Pr} {u : U} {w w' : W} {F : List Nat} (h : isSc u = some w) (d : D c E B u w' F) : w' = w := by
  cases u with
  | non => cases h; exact d.is_non
  | bl b => cases h; exact d.is_bl
  | int i => cases h; exact d.is_int
  | str z => cases h; exact d.is_str
  | _ => cases h
theorem op2_sc {f : Hh → W → W → S → CC.O2} {g : U → U → Option U} (h : ∀ {p : Hh} {s : S} {E B : Pr} {x y u : U} {wx wy : W} {Fx Fy : List Nat}, D (rd p s) E B x wx Fx → D (rd p s) E B y wy Fy → g x y = some u → ∃ w, isSc u = some w ∧ f p wx wy s = some (w, s)) : Op2 f g := fun dx dy ev nd e => by
  obtain ⟨w, h1, h2⟩ := h dx dy e
  exact ⟨w, _, [], h2, .rfl', fun _ h => h, sc_d h1, List.nodup_nil, no⟩
theorem op1_sc {f : Hh → W → S → CC.O2} {g : U → Option U} (h : ∀ {p : Hh} {s : S} {E B : Pr} {x u : U} {wx : W} {Fx : List Nat}, D (rd p s) E B x wx Fx → g x = some u → ∃ w, isSc u = some w ∧ f p wx s = some (w, s)) : Op1 f g := fun dx ev nd e => by
  obtain ⟨w, h1, h2⟩ := h dx e
  exact ⟨w, _, [], h2, .rfl', fun _ h => h, sc_d h1, List.nodup_nil, no⟩
theorem opN_sc {f : Hh → List W → S → CC.O2} {g : List U → Option U} (h : ∀ {p : Hh} {s : S} {E B : Pr} {xs : List U} {u : U} {ws : List W} {Fx : List Nat}, Ds (rd p s) E B xs ws Fx → g xs = some u → ∃ w, isSc u = some w ∧ f p ws s = some (w, s)) : OpN f g := fun dx ev nd e => by
  obtain ⟨w, h1, h2⟩ := h dx e
  exact ⟨w, _, [], h2, .rfl', fun _ h => h, sc_d h1, List.nodup_nil, no⟩
def gSub (x y : U) : Option U := match x, y with
  | .int i, .int j => some (.int (i - j))
  | _, _ => none
def gFdiv (x y : U) : Option U := match x, y with
  | .int i, .int j => if 0 < j ∧ j < 1073741824 then some (.int (i / j)) else none
  | _, _ => none
def gMod (x y : U) : Option U := match x, y with
  | .int i, .int j => if 0 < j then some (.int (i % j)) else none
  | _, _ => none
def gPow (x y : U) : Option U := match x, y with
  | .int i, .int j => if 0 ≤ j ∧ j ≤ 1000000 ∧ i.natAbs < 2 ^ 64 then some (.int (i ^ j.toNat)) else none
  | _, _ => none
def gNeg (x : U) : Option U := match x with
  | .int i => some (.int (-i))
  | _ => none
def gLe (x y : U) : Option U := match x, y with
  | .int i, .int j => some (.bl (decide (i ≤ j)))
  | _, _ => none
def gGt (x y : U) : Option U := match x, y with
  | .int i, .int j => some (.bl (decide (j < i)))
  | _, _ => none
def gGe (x y : U) : Option U := match x, y with
  | .int i, .int j => some (.bl (decide (j ≤ i)))
  | _, _ => none
def isIntsU : List U → Option (List Int)
  | [] => some []
  | .int i :: r => (isIntsU r).map (i :: ·)
  | _ => none
def gLt (x y : U) : Option U := match x, y with
  | .int i, .int j => some (.bl (decide (i < j)))
  | .tup a, .tup b => (match isIntsU a, isIntsU b with | some ns, some ms => some (.bl (HT.lexLt ns ms)) | _, _ => none)
  | _, _ => none
def isNonU : U → Bool
  | .non => true
  | _ => false
def gIs (x y : U) : Option U := match y with
  | .non => some (.bl (isNonU x))
  | .bl b => (match x with | .bl a => some (.bl (decide (a = b))) | _ => none)
  | _ => none
def gIsN (x y : U) : Option U := match y with
  | .non => some (.bl (!isNonU x))
  | .bl b => (match x with | .bl a => some (.bl (!decide (a = b))) | _ => none)
  | _ => none
section
variable {c : Cf} {E B : Pr} {u : U} {w : W} {F : List Nat}
theorem isInts_ok {us : List U} {ns : List Int} : ∀ {ws : List W} {F : List Nat}, Ds c E B us ws F → isIntsU us = some ns → CC.isInts ws = some ns := by
  induction us generalizing ns with
  | nil => intro ws F d h; cases d; exact h
  | cons u us ih =>
    intro ws F d h
    cases d with
    | cons d r =>
      cases u with
      | int i =>
        obtain rfl := d.is_int
        unfold isIntsU at h
        unfold CC.isInts
        cases q : isIntsU us with
        | none => rw [q] at h; cases h
        | some ms => rw [q] at h; cases h; rw [ih r q]; rfl
      | _ => cases h
theorem isNon_ok (d : D c E B u w F) : CC.isNon w = isNonU u := by
  rcases d.node with rfl | ⟨_, rfl⟩ | ⟨_, rfl⟩ | ⟨_, rfl⟩ | ⟨us, rfl⟩ | ⟨z', us', n, ob, ws, F0, T0, rfl, e, k, r, f⟩
  · obtain rfl := d.is_non; rfl
  · obtain rfl := d.is_bl; rfl
  · obtain rfl := d.is_int; rfl
  · obtain rfl := d.is_str; rfl
  · obtain ⟨_, ws, rfl, _⟩ := d.is_tup; rfl
  · cases k <;> rfl
end
theorem x_gSub : Op2 CC.gSub gSub := by
  refine op2_sc fun {p s E B x y u wx wy Fx Fy} dx dy e => ?_
  cases x <;> first | cases e | skip
  cases y <;> first | cases e | skip
  obtain rfl := dx.is_int
  obtain rfl := dy.is_int
  exact ⟨_, rfl, rfl⟩
theorem x_gLe : Op2 CC.gLe gLe := by
  refine op2_sc fun {p s E B x y u wx wy Fx Fy} dx dy e => ?_
  cases x <;> first | cases e | skip
  cases y <;> first | cases e | skip
  obtain rfl := dx.is_int
  obtain rfl := dy.is_int
  exact ⟨_, rfl, rfl⟩
theorem x_gGt : Op2 CC.gGt gGt := by
  refine op2_sc fun {p s E B x y u wx wy Fx Fy} dx dy e => ?_
  cases x <;> first | cases e | skip
  cases y <;> first | cases e | skip
  obtain rfl := dx.is_int
  obtain rfl := dy.is_int
  exact ⟨_, rfl, rfl⟩
theorem x_gGe : Op2 CC.gGe gGe := by
  refine op2_sc fun {p s E B x y u wx wy Fx Fy} dx dy e => ?_
  cases x <;> first | cases e | skip
  cases y <;> first | cases e | skip
  obtain rfl := dx.is_int
  obtain rfl := dy.is_int
  exact ⟨_, rfl, rfl⟩
theorem x_gFdiv : Op2 CC.gFdiv gFdiv := by
  refine op2_sc fun {p s E B x y u wx wy Fx Fy} dx dy e => ?_
  cases x <;> first | cases e | skip
  cases y <;> first | cases e | skip
  obtain rfl := dx.is_int
  obtain rfl := dy.is_int
  unfold gFdiv at e
  unfold CC.gFdiv
  dsimp only at e ⊢
  split at e
  · rename_i h
    cases e
    rw [if_pos h]
    exact ⟨_, rfl, rfl⟩
  · cases e
theorem x_gMod : Op2 CC.gMod gMod := by
  refine op2_sc fun {p s E B x y u wx wy Fx Fy} dx dy e => ?_
  cases x <;> first | cases e | skip
  cases y <;> first | cases e | skip
  obtain rfl := dx.is_int
  obtain rfl := dy.is_int
  unfold gMod at e
  unfold CC.gMod
  dsimp only at e ⊢
  split at e
  · rename_i h
    cases e
    rw [if_pos h]
    exact ⟨_, rfl, rfl⟩
  · cases e
theorem x_gPow : Op2 CC.gPow gPow := by
  refine op2_sc fun {p s E B x y u wx wy Fx Fy} dx dy e => ?_
  cases x <;> first | cases e | skip
  cases y <;> first | cases e | skip
  obtain rfl := dx.is_int
  obtain rfl := dy.is_int
  unfold gPow at e
  unfold CC.gPow
  dsimp only at e ⊢
  split at e
  · rename_i h
    cases e
    rw [if_pos h]
    exact ⟨_, rfl, rfl⟩
  · cases e
theorem x_gNeg : Op1 CC.gNeg gNeg := by
  refine op1_sc fun {p s E B x u wx Fx} dx e => ?_
  cases x <;> first | cases e | skip
  obtain rfl := dx.is_int
  exact ⟨_, rfl, rfl⟩
theorem x_gLt : Op2 CC.gLt gLt := by
  refine op2_sc fun {p s E B x y u wx wy Fx Fy} dx dy e => ?_
  cases x with
  | int i =>
    cases y with
    | int j =>
      obtain rfl := dx.is_int
      obtain rfl := dy.is_int
      cases e
      exact ⟨_, rfl, rfl⟩
    | _ => cases e
  | tup a =>
    cases y with
    | tup b =>
      obtain ⟨_, ws, rfl, d1⟩ := dx.is_tup
      obtain ⟨_, ws2, rfl, d2⟩ := dy.is_tup
      unfold gLt at e
      unfold CC.gLt
      dsimp only at e ⊢
      cases q : isIntsU a with
      | none => rw [q] at e; cases e
      | some ns =>
        cases q2 : isIntsU b with
        | none => rw [q, q2] at e; cases e
        | some ms =>
          rw [q, q2] at e
          rw [isInts_ok d1 q, isInts_ok d2 q2]
          cases e
          exact ⟨_, rfl, rfl⟩
    | _ => cases e
  | _ => cases e
theorem x_gIs : Op2 CC.gIs gIs := by
  refine op2_sc fun {p s E B x y u wx wy Fx Fy} dx dy e => ?_
  cases y with
  | non =>
    obtain rfl := dy.is_non
    cases e
    refine ⟨_, rfl, ?_⟩
    show some (W.bl (CC.isNon wx), s) = _
    rw [isNon_ok dx]
  | bl b =>
    cases x with
    | bl a =>
      obtain rfl := dx.is_bl
      obtain rfl := dy.is_bl
      cases e
      exact ⟨_, rfl, rfl⟩
    | _ => cases e
  | _ => cases e
theorem x_gIsN : Op2 CC.gIsN gIsN := by
  refine op2_sc fun {p s E B x y u wx wy Fx Fy} dx dy e => ?_
  cases y with
  | non =>
    obtain rfl := dy.is_non
    cases e
    refine ⟨_, rfl, ?_⟩
    show some (W.bl (!CC.isNon wx), s) = _
    rw [isNon_ok dx]
  | bl b =>
    cases x with
    | bl a =>
      obtain rfl := dx.is_bl
      obtain rfl := dy.is_bl
      cases e
      exact ⟨_, rfl, rfl⟩
    | _ => cases e
  | _ => cases e

/-! ### as data -/
def datU : Nat → U → Option PyData
  | _, .non => some .none
  | _, .bl b => some (.bool b)
  | _, .int i => some (.int i)
  | _, .str z => some (.str z)
  | f + 1, .tup us => (match mapO (datU f) us with | some ds => some (.tuple ds) | none => none)
  | f + 1, .lst _ us => (match mapO (datU f) us with | some ds => some (.list ds) | none => none)
  | _ + 1, .frz ns => some (.list (ns.map .int))
  | _ + 1, .dct _ [] => some (.dict [])
  | _, _ => none
def gEqD (x y : U) : Option Bool := match datU 12 x, datU 12 y with
  | some d, some e => if SeqAt.shaped d && SeqAt.shaped e then some (PyData.eqv d e) else none
  | _, _ => none
def gEqB (x y : U) : Option Bool := match x with
  | .int i => (match y with
    | .int j => some (decide (i = j))
    | _ => gEqD x y)
  | _ => gEqD x y
def gEq (x y : U) : Option U := match gEqB x y with
  | some b => some (.bl b)
  | none => none
def gNe (x y : U) : Option U := match gEqB x y with
  | some b => some (.bl (!b))
  | none => none
def fRepr (xs : List U) : Option U := match xs with
  | [x] => (match datU 12 x with
    | some d => if d.showable && (!d.hasDict || CC.noLst d) && decide (d.depth ≤ 40) && decide (d.shown.length ≤ 1000000) then some (.str d.shown) else none
    | none => none)
  | _ => none
def gInB (x y : U) : Option Bool := match datU 12 x, datU 12 y with
  | some d, some (.list ds) => if SeqAt.shaped d && SeqAt.shaped (.list ds) then some (ds.any fun z => PyData.eqv z d) else none
  | some d, some (.tuple ds) => if SeqAt.shaped d && SeqAt.shaped (.tuple ds) then some (ds.any fun z => PyData.eqv z d) else none
  | _, _ => none
section
variable {p : Hh} {s : S} {E B : Pr} {u : U} {w : W} {F T : List Nat}
theorem mapO_ok {f : U → Option PyData} {g : W → Option PyData} {us : List U} (h : ∀ u w F T d, D0 (rd p s) u w F T → f u = some d → g w = some d) : ∀ {ws : List W} {F T : List Nat} {ds : List PyData}, D0s (rd p s) us ws F T → mapO f us = some ds → mapO g ws = some ds := by
  induction us with
  | nil => intro ws F T ds d e; cases d; exact e
  | cons u us ih =>
    intro ws F T ds d e
    cases d with
    | cons d r =>
      unfold mapO at e ⊢
      cases q : f u with
      | none => rw [q] at e; cases e
      | some x =>
        rw [q] at e
        rw [h _ _ _ _ _ d q]
        cases q2 : mapO f us with
        | none => rw [q2] at e; cases e
        | some y => rw [q2] at e; rw [ih r q2]; exact e
theorem nodeDat {z : Fl} {us : List U} {ob : Ob} {ws : List W} {n : Nat} {f : Nat} {d : PyData} (ih : ∀ u w F T d, D0 (rd p s) u w F T → datU f u = some d → CC.datW p s f w = some d) (e : rd p s n = some ob) (k : Sh z u us ob ws) (r : D0s (rd p s) us ws F T) (h : datU (f + 1) u = some d) : CC.datW p s (f + 1) (.ref n) = some d := by
  unfold CC.datW
  rw [e]
  cases k with
  | lst =>
    unfold datU at h
    dsimp only at h ⊢
    cases q : mapO (datU f) us with
    | none => rw [q] at h; cases h
    | some y => rw [q] at h; rw [mapO_ok ih r q]; exact h
  | frz => exact h
  | @dct _ kvs kws hk =>
    cases kvs with
    | nil =>
      cases kws with
      | nil => exact h
      | cons _ _ => cases hk
    | cons _ _ => cases h
  | dtt _ => cases h
  | ins _ => cases h
theorem dat_ok0 : ∀ (f : Nat) (u : U) (w : W) (F T : List Nat) (d : PyData), D0 (rd p s) u w F T → datU f u = some d → CC.datW p s f w = some d
  | 0, u, w, F, T, d, h, e => by
    cases h with
    | non => exact e
    | bl b => exact e
    | int i => exact e
    | str z => exact e
    | tup r => cases e
    | own q k r => exact absurd e (by cases k <;> simp [datU])
    | shr q k r => exact absurd e (by cases k <;> simp [datU])
  | f + 1, u, w, F, T, d, h, e => by
    cases h with
    | non => exact e
    | bl b => exact e
    | int i => exact e
    | str z => exact e
    | @tup us ws T r =>
      unfold datU at e
      unfold CC.datW
      cases q : mapO (datU f) us with
      | none => rw [q] at e; cases e
      | some y => rw [q] at e; rw [mapO_ok (dat_ok0 f) r q]; exact e
    | own q k r => exact nodeDat (dat_ok0 f) q k r e
    | shr q k r => exact nodeDat (dat_ok0 f) q k r e
theorem dat_ok {d : PyData} (h : D (rd p s) E B u w F) (e : datU 12 u = some d) : CC.dat p s w = some d := by
  obtain ⟨T, Z, h, _⟩ := h
  cases h with
  | z h => exact dat_ok0 12 _ _ _ _ _ h e
  | b q k r => exact nodeDat (dat_ok0 11) q k r e
theorem eqD_ok {x y : U} {wx wy : W} {Fx Fy : List Nat} {b : Bool} (dx : D (rd p s) E B x wx Fx) (dy : D (rd p s) E B y wy Fy) (h : gEqD x y = some b) : CC.gEqD p wx wy s = some b := by
  unfold gEqD at h
  unfold CC.gEqD
  cases e : datU 12 x with
  | none => rw [e] at h; cases h
  | some d1 =>
    cases e2 : datU 12 y with
    | none => rw [e, e2] at h; cases h
    | some d2 =>
      rw [e, e2] at h
      rw [dat_ok dx e, dat_ok dy e2]
      exact h
theorem eqB_ok {x y : U} {wx wy : W} {Fx Fy : List Nat} {b : Bool} (dx : D (rd p s) E B x wx Fx) (dy : D (rd p s) E B y wy Fy) (h : gEqB x y = some b) : CC.gEqB p wx wy s = some b := by
  have viaD : gEqD x y = some b → (∀ i j, ¬ (x = .int i ∧ y = .int j)) → CC.gEqB p wx wy s = some b := fun h ne => by
    have q := eqD_ok dx dy h
    unfold CC.gEqB
    split
    · rename_i i
      split
      · rename_i j
        exfalso
        rcases dx.node with rfl | ⟨_, rfl⟩ | ⟨i', rfl⟩ | ⟨_, rfl⟩ | ⟨us, rfl⟩ | ⟨z', us', n, ob, ws, F0, T0, e, _⟩
        · cases dx.is_non
        · cases dx.is_bl
        · rcases dy.node with rfl | ⟨_, rfl⟩ | ⟨j', rfl⟩ | ⟨_, rfl⟩ | ⟨us, rfl⟩ | ⟨z', us', n, ob, ws, F0, T0, e, _⟩
          · cases dy.is_non
          · cases dy.is_bl
          · exact ne i' j' ⟨rfl, rfl⟩
          · cases dy.is_str
          · obtain ⟨_, _, e, _⟩ := dy.is_tup; cases e
          · cases e
        · cases dx.is_str
        · obtain ⟨_, _, e, _⟩ := dx.is_tup; cases e
        · cases e
      · exact q
    · exact q
  unfold gEqB at h
  split at h
  · rename_i i
    split at h
    · rename_i j
      obtain rfl := dx.is_int
      obtain rfl := dy.is_int
      exact h
    · rename_i hne
      exact viaD h fun i' j e => hne j e.2
  · rename_i hne
    exact viaD h fun i' j e => hne i' e.1
theorem x_gEq : Op2 CC.gEq gEq := by
  refine op2_sc fun {p s E B x y u wx wy Fx Fy} dx dy e => ?_
  unfold gEq at e
  unfold CC.gEq
  cases q : gEqB x y with
  | none => rw [q] at e; cases e
  | some b =>
    rw [q] at e
    rw [eqB_ok dx dy q]
    cases e
    exact ⟨_, rfl, rfl⟩
theorem x_gNe : Op2 CC.gNe gNe := by
  refine op2_sc fun {p s E B x y u wx wy Fx Fy} dx dy e => ?_
  unfold gNe at e
  unfold CC.gNe
  cases q : gEqB x y with
  | none => rw [q] at e; cases e
  | some b =>
    rw [q] at e
    rw [eqB_ok dx dy q]
    cases e
    exact ⟨_, rfl, rfl⟩
theorem Ds.one {x : U} {ws : List W} (h : Ds (rd p s) E B [x] ws F) : ∃ w, ws = [w] ∧ D (rd p s) E B x w F := by
  cases h with
  | cons d r => cases r with | nil => rw [List.append_nil]; exact ⟨_, rfl, d⟩
theorem x_fRepr : OpN CC.fRepr fRepr := by
  refine opN_sc fun {p s E B xs u ws Fx} dx e => ?_
  match xs, dx, e with
  | [x], dx, e =>
    obtain ⟨w, rfl, d⟩ := dx.one
    unfold fRepr at e
    unfold CC.fRepr
    dsimp only at e ⊢
    cases q : datU 12 x with
    | none => rw [q] at e; cases e
    | some y =>
      rw [q] at e
      rw [dat_ok d q]
      dsimp only at e ⊢
      split at e
      · rename_i h
        cases e
        rw [if_pos h]
        exact ⟨_, rfl, rfl⟩
      · cases e
  | [], _, e => cases e
  | _ :: _ :: _, _, e => cases e
theorem inB_ok {x y : U} {wx wy : W} {Fx Fy : List Nat} {b : Bool} (dx : D (rd p s) E B x wx Fx) (dy : D (rd p s) E B y wy Fy) (h : gInB x y = some b) : CC.gInB p wx wy s = some b := by
  unfold gInB at h
  unfold CC.gInB
  cases e : datU 12 x with
  | none => rw [e] at h; cases h
  | some d1 =>
    cases e2 : datU 12 y with
    | none => rw [e, e2] at h; cases h
    | some d2 =>
      rw [e, e2] at h
      rw [dat_ok dx e, dat_ok dy e2]
      exact h
end
end CV
set_option Elab.async false
set_option linter.all false
set_option maxRecDepth 100000
/-! CV8: lists, tuples, dicts, objects, read -/
namespace CV
open PySem PySem.Spec PyProof.Rows L2
open CC (W Ob S Hh Lo R RS rd wr al nxt ItD i64 mapO)

/-- the items of a list or a tuple as values -/
def itmsU : U → Option (List U)
  | .lst .o us => some us
  | .lst z us => some (us.map (itm z))
  | .tup us => some us
  | .frz ns => some (ns.map U.int)
  | _ => none
def lenU : U → Option Nat
  | .lst _ us => some us.length
  | .tup us => some us.length
  | .frz ns => some ns.length
  | _ => none
/-- the items of a list -/
def lsU : U → Option (List U)
  | .lst .o us => some us
  | .lst z us => some (us.map (itm z))
  | _ => none
/-- the items of a list, or of the script -/
def lfU : U → Option (List U)
  | .lst .o us => some us
  | .lst z us => some (us.map (itm z))
  | .frz ns => some (ns.map U.int)
  | _ => none
section
variable {p : Hh} {s : S} {c : Cf} {E B : Pr} {u : U} {w : W} {us : List U} {ws : List W} {F T F0 T0 : List Nat} {n : Nat}
theorem item_ok {z : Fl} {Fx : List Nat} (d : D0 c u w F T) (g : Fg E B z n F0 T0 Fx) (hF : ∀ a ∈ F, a ∈ F0) (hT : ∀ a ∈ T, a ∈ T0) : ∃ F', D c E B (itm z u) w F' ∧ (∀ a ∈ F', a ∈ Fx) ∧ (F' = F ∨ F' = []) := by
  cases z with
  | o => exact ⟨F, ⟨T, [], .z d, fun a m => g.2.1 a (List.mem_cons_of_mem _ (hF a m)), fun a m => g.2.2 a (hT a m), no⟩, fun a m => by rw [g.1]; exact List.mem_cons_of_mem _ (hF a m), .inl rfl⟩
  | s =>
    obtain ⟨T', d', t⟩ := d.frz
    exact ⟨[], ⟨T', [], .z d', no, fun a m => (t a m).elim (fun m => g.2.2.1 a (hF a m)) fun m => g.2.2.2 a (hT a m), no⟩, no, .inr rfl⟩
  | b =>
    obtain ⟨T', Z', d', t, z⟩ := d.bor
    exact ⟨[], ⟨T', Z', d', no, fun a m => g.2.2 a (hT a (t a m)), fun a m => g.2.1 a (List.mem_cons_of_mem _ (hF a (z a m)))⟩, no, .inr rfl⟩
theorem D0s.items {z : Fl} {Fx : List Nat} (r : D0s c us ws F T) (nd : F.Nodup) (g : Fg E B z n F0 T0 Fx) (hF : ∀ a ∈ F, a ∈ F0) (hT : ∀ a ∈ T, a ∈ T0) : ∃ F', Ds c E B (us.map (itm z)) ws F' ∧ (∀ a ∈ F', a ∈ Fx) ∧ F'.Nodup ∧ ∀ a ∈ F', a ∈ F := by
  induction us generalizing ws F T with
  | nil => cases r; exact ⟨[], .nil, no, List.nodup_nil, no⟩
  | cons u us ih =>
    cases r with
    | @cons u w us ws Fa Ta Fb Tb d r =>
      have nd2 := List.nodup_append.mp nd
      obtain ⟨F1, d1, s1, e1⟩ := item_ok d g (fun a m => hF a (List.mem_append_left _ m)) fun a m => hT a (List.mem_append_left _ m)
      obtain ⟨F2, d2, s2, n2, i2⟩ := ih r nd2.2.1 (fun a m => hF a (List.mem_append_right _ m)) fun a m => hT a (List.mem_append_right _ m)
      have i1 : ∀ a ∈ F1, a ∈ Fa := fun a m => by
        rcases e1 with e1 | e1
        · rw [e1] at m; exact m
        · rw [e1] at m; cases m
      have n1 : F1.Nodup := by
        rcases e1 with e1 | e1
        · rw [e1]; exact nd2.1
        · rw [e1]; exact List.nodup_nil
      refine ⟨F1 ++ F2, .cons d1 d2, fun a m => (List.mem_append.mp m).elim (s1 a) (s2 a), List.nodup_append.mpr ⟨n1, n2, fun a h b h2 e => nd2.2.2 a (i1 a h) b (i2 b h2) e⟩, fun a m => (List.mem_append.mp m).elim (fun m => List.mem_append_left _ (i1 a m)) fun m => List.mem_append_right _ (i2 a m)⟩
theorem D0s.get {i : Nat} (r : D0s c us ws F T) (h : us[i]? = some u) : ∃ w F' T', ws[i]? = some w ∧ D0 c u w F' T' ∧ (∀ a ∈ F', a ∈ F) ∧ (∀ a ∈ T', a ∈ T) ∧ (F.Nodup → F'.Nodup) := by
  induction us generalizing ws F T i with
  | nil => simp at h
  | cons x us ih =>
    cases r with
    | @cons _ w _ ws Fa Ta Fb Tb d r =>
      cases i with
      | zero =>
        simp at h
        subst h
        exact ⟨w, Fa, Ta, rfl, d, fun a m => List.mem_append_left _ m, fun a m => List.mem_append_left _ m, fun nd => (List.nodup_append.mp nd).1⟩
      | succ i =>
        obtain ⟨w', F', T', h1, h2, h3, h4, h5⟩ := ih r (by simpa using h)
        exact ⟨w', F', T', by simpa using h1, h2, fun a m => List.mem_append_right _ (h3 a m), fun a m => List.mem_append_right _ (h4 a m), fun nd => h5 (List.nodup_append.mp nd).2.1⟩
theorem D0s.len (r : D0s c us ws F T) : us.length = ws.length := by
  induction us generalizing ws F T with
  | nil => cases r; rfl
  | cons u us ih => cases r with | cons d r => simp [ih r]
theorem Fg.nd {z : Fl} {Fx : List Nat} (g : Fg E B z n F0 T0 Fx) (nd : Fx.Nodup) : z = .o → F0.Nodup := fun h => by
  subst h
  rw [g.1] at nd
  exact (List.nodup_cons.mp nd).2
theorem itm_nil {z : Fl} (h : z ≠ .o) {Fx : List Nat} (r : D0s c us ws F T) (g : Fg E B z n F0 T0 Fx) (hF : ∀ a ∈ F, a ∈ F0) (hT : ∀ a ∈ T, a ∈ T0) : Ds c E B (us.map (itm z)) ws [] := by
  cases z with
  | o => exact absurd rfl h
  | s => exact r.frzd (fun a m => g.2.2.1 a (hF a m)) fun a m => g.2.2.2 a (hT a m)
  | b => exact r.bord (fun a m => g.2.1 a (List.mem_cons_of_mem _ (hF a m))) fun a m => g.2.2 a (hT a m)
theorem lst_items {z : Fl} (d : D (rd p s) E B (.lst z us) w F) (nd : F.Nodup) : ∃ n ws F', w = .ref n ∧ rd p s n = some (.lst ws) ∧ Ds (rd p s) E B (match z with | .o => us | z => us.map (itm z)) ws F' ∧ F'.Nodup ∧ ∀ a ∈ F', a ∈ F := by
  obtain ⟨n, ws, F0, T0, rfl, e, r, g⟩ := d.lst
  by_cases hz : z = .o
  · subst hz
    obtain ⟨rfl, g1, g2⟩ := g
    exact ⟨n, ws, F0, rfl, e, r.to (fun a m => g1 a (List.mem_cons_of_mem _ m)) g2, (List.nodup_cons.mp nd).2, fun a m => List.mem_cons_of_mem _ m⟩
  · have := itm_nil hz r g (fun a h => h) (fun a h => h)
    refine ⟨n, ws, [], rfl, e, ?_, List.nodup_nil, no⟩
    cases z <;> first | exact absurd rfl hz | exact this
theorem lsU_ok {us : List U} (d : D (rd p s) E B u w F) (nd : F.Nodup) (h : lsU u = some us) : ∃ n ws F', w = .ref n ∧ rd p s n = some (.lst ws) ∧ Ds (rd p s) E B us ws F' ∧ F'.Nodup ∧ ∀ a ∈ F', a ∈ F := by
  cases u with
  | lst z us' =>
    obtain ⟨n, ws, F', e1, e2, e3, e4⟩ := lst_items d nd
    refine ⟨n, ws, F', e1, e2, ?_, e4⟩
    cases z <;> (cases h; exact e3)
  | _ => cases h
theorem lfU_ok {us : List U} (d : D (rd p s) E B u w F) (nd : F.Nodup) (h : lfU u = some us) : ∃ n ws F', w = .ref n ∧ CC.cellItems p s n = some ws ∧ Ds (rd p s) E B us ws F' ∧ F'.Nodup ∧ ∀ a ∈ F', a ∈ F := by
  cases u with
  | lst z us' =>
    obtain ⟨n, ws, F', e1, e2, e3, e4⟩ := lst_items d nd
    refine ⟨n, ws, F', e1, by unfold CC.cellItems; rw [e2], ?_, e4⟩
    cases z <;> (cases h; exact e3)
  | frz ns =>
    cases h
    obtain ⟨rfl, n, rfl, e, _⟩ := d.frz_
    exact ⟨n, _, [], rfl, by unfold CC.cellItems; rw [e], ds_ints, List.nodup_nil, no⟩
  | _ => cases h
theorem itmsU_ok {us : List U} (d : D (rd p s) E B u w F) (nd : F.Nodup) (h : itmsU u = some us) : ∃ ws F', CC.seqItems p s w = some ws ∧ Ds (rd p s) E B us ws F' ∧ F'.Nodup ∧ ∀ a ∈ F', a ∈ F := by
  cases u with
  | tup us' =>
    cases h
    obtain ⟨rfl, ws, rfl, ds⟩ := d.is_tup
    exact ⟨ws, [], rfl, ds, List.nodup_nil, no⟩
  | lst z us' =>
    obtain ⟨n, ws, F', rfl, e2, e3⟩ := lfU_ok d nd (us := us) (by cases z <;> exact h)
    exact ⟨ws, F', e2, e3⟩
  | frz ns =>
    obtain ⟨n, ws, F', rfl, e2, e3⟩ := lfU_ok d nd (us := us) h
    exact ⟨ws, F', e2, e3⟩
  | _ => cases h
theorem lenU_ok {k : Nat} (d : D (rd p s) E B u w F) (h : lenU u = some k) : ∃ ws, CC.seqItems p s w = some ws ∧ ws.length = k := by
  cases u with
  | tup us' =>
    cases h
    obtain ⟨rfl, ws, rfl, ds⟩ := d.is_tup
    exact ⟨ws, rfl, ds.len.symm⟩
  | lst z us' =>
    cases h
    obtain ⟨n, ws, F0, T0, rfl, e, r, g⟩ := d.lst
    exact ⟨ws, by show CC.cellItems p s n = _; unfold CC.cellItems; rw [e], r.len.symm⟩
  | frz ns =>
    cases h
    obtain ⟨rfl, n, rfl, e, _⟩ := d.frz_
    exact ⟨ns.map W.int, by show CC.cellItems p s n = _; unfold CC.cellItems; rw [e], by simp⟩
  | _ => cases h
end
/-! built-ins -/
def fLen (xs : List U) : Option U := match xs with
  | [.str z] => if z.length ≤ 1000000 then some (.int z.length) else none
  | [u] => (match lenU u with | some k => some (.int k) | none => none)
  | _ => none
def fList (xs : List U) : Option U := match xs with
  | [u] => (match itmsU u with | some us => if us.all noB then some (.lst .o us) else none | none => none)
  | _ => none
def fTuple (xs : List U) : Option U := match xs with
  | [u] => (match itmsU u with | some us => if us.all noB && us.all noO then some (.tup us) else none | none => none)
  | _ => none
def fAbs (xs : List U) : Option U := match xs with
  | [.int i] => some (.int (if i < 0 then -i else i))
  | _ => none
def fMax2 (xs : List U) : Option U := match xs with
  | [.int i, .int j] => some (.int (if j > i then j else i))
  | _ => none
def fMin2 (xs : List U) : Option U := match xs with
  | [.int i, .int j] => some (.int (if j < i then j else i))
  | _ => none
def fInt (xs : List U) : Option U := match xs with
  | [.int i] => some (.int i)
  | [.bl b] => some (.int (if b then 1 else 0))
  | _ => none
def isBlsU : List U → Option (List Bool)
  | [] => some []
  | .bl b :: r => (match isBlsU r with | some q => some (b :: q) | none => none)
  | _ => none
def rawL : U → Option (List U)
  | .lst _ us => some us
  | .frz ns => some (ns.map U.int)
  | _ => none
def fSum (xs : List U) : Option U := match xs with
  | [u] => (match rawL u with
    | some us => (match isIntsU us with | some ns => some (.int ns.sum) | none => none)
    | none => none)
  | _ => none
def fAny (xs : List U) : Option U := match xs with
  | [u] => (match rawL u with
    | some us => (match isBlsU us with | some ns => some (.bl (ns.any id)) | none => none)
    | none => none)
  | _ => none
def fAll (xs : List U) : Option U := match xs with
  | [u] => (match rawL u with
    | some us => (match isBlsU us with | some ns => some (.bl (ns.all id)) | none => none)
    | none => none)
  | _ => none
section
variable {p : Hh} {s : S} {c : Cf} {E B : Pr} {u : U} {w : W} {us : List U} {ws : List W} {F T F0 T0 : List Nat} {n : Nat}
theorem rawL_ok (d : D (rd p s) E B u w F) (h : rawL u = some us) : ∃ ws F0 T0, CC.cellL p s w = some ws ∧ D0s (rd p s) us ws F0 T0 := by
  cases u with
  | lst z us' =>
    cases h
    obtain ⟨n, ws, F0, T0, rfl, e, r, g⟩ := d.lst
    exact ⟨ws, F0, T0, by show CC.cellItems p s n = _; unfold CC.cellItems; rw [e], r⟩
  | frz ns =>
    cases h
    obtain ⟨rfl, n, rfl, e, _⟩ := d.frz_
    refine ⟨ns.map W.int, [], [], by show CC.cellItems p s n = _; unfold CC.cellItems; rw [e], ?_⟩
    clear d e
    induction ns with
    | nil => exact .nil
    | cons a r ih => exact .cons (F := []) (T := []) (.int a) ih
  | _ => cases h
theorem ints0_ok {ns : List Int} : ∀ {us : List U} {ws : List W} {F T : List Nat}, D0s c us ws F T → isIntsU us = some ns → CC.isInts ws = some ns := by
  intro us
  induction us generalizing ns with
  | nil => intro ws F T d h; cases d; exact h
  | cons u us ih =>
    intro ws F T d h
    cases d with
    | cons d r =>
      cases u with
      | int i =>
        cases d with
        | int _ =>
          unfold isIntsU at h
          unfold CC.isInts
          cases q : isIntsU us with
          | none => rw [q] at h; cases h
          | some ms => rw [q] at h; cases h; rw [ih r q]; rfl
        | own _ k _ => cases k
        | shr _ k _ => cases k
      | _ => cases h
theorem bls0_ok {ns : List Bool} : ∀ {us : List U} {ws : List W} {F T : List Nat}, D0s c us ws F T → isBlsU us = some ns → CC.isBls ws = some ns := by
  intro us
  induction us generalizing ns with
  | nil => intro ws F T d h; cases d; exact h
  | cons u us ih =>
    intro ws F T d h
    cases d with
    | cons d r =>
      cases u with
      | bl i =>
        cases d with
        | bl _ =>
          unfold isBlsU at h
          unfold CC.isBls
          cases q : isBlsU us with
          | none => rw [q] at h; cases h
          | some ms => rw [q] at h; cases h; rw [ih r q]
        | own _ k _ => cases k
        | shr _ k _ => cases k
      | _ => cases h
theorem opN_one {f : Hh → List W → S → CC.O2} {g : List U → Option U} (g1 : ∀ xs, (∀ x, xs ≠ [x]) → g xs = none) (h : ∀ {p : Hh} {s : S} {E B : Pr} {x u : U} {w : W} {Fx : List Nat}, D (rd p s) E B x w Fx → (∀ n, rd p s n = none → E n) → Fx.Nodup → g [x] = some u →
    ∃ w' s' F, f p [w] s = some (w', s') ∧ Ext (rd p s) (rd p s') ∧ (∀ n, rd p s' n = none → rd p s n = none) ∧ D (rd p s') E B u w' F ∧ F.Nodup ∧ ∀ a ∈ F, a ∈ Fx ∨ rd p s a = none) : OpN f g := fun {p s E B xs u ws Fx} dx ev nd e => by
  match xs, dx, e with
  | [x], dx, e =>
    obtain ⟨w, rfl, d⟩ := dx.one
    exact h d ev nd e
  | [], _, e => rw [g1 [] (by simp)] at e; cases e
  | _ :: _ :: _, _, e => rw [g1 _ (by simp)] at e; cases e
theorem sc_end {w : W} {u : U} (h : isSc u = some w) : Ext (rd p s) (rd p s) ∧ (∀ n, rd p s n = none → rd p s n = none) ∧ D (rd p s) E B u w [] ∧ ([] : List Nat).Nodup ∧ ∀ a ∈ ([] : List Nat), a ∈ F ∨ rd p s a = none := ⟨.rfl', fun _ h => h, sc_d h, List.nodup_nil, no⟩
theorem x_fLen : OpN CC.fLen fLen := by
  refine opN_one (fun xs h => ?_) fun {p s E B x u w Fx} d ev nd e => ?_
  · unfold fLen
    split
    · exact absurd rfl (h _)
    · exact absurd rfl (h _)
    · rfl
  cases x with
  | str z =>
    obtain rfl := d.is_str
    unfold fLen at e
    dsimp only at e
    split at e
    · rename_i q
      cases e
      exact ⟨_, s, [], by unfold CC.fLen; dsimp only; rw [if_pos q], sc_end rfl⟩
    · cases e
  | lst z us =>
    cases e
    obtain ⟨n, ws, F0, T0, rfl, e, r, g⟩ := d.lst
    exact ⟨.int us.length, s, [], by unfold CC.fLen CC.seqItems CC.cellItems; dsimp only; rw [e]; dsimp only; rw [r.len], sc_end rfl⟩
  | frz ns =>
    cases e
    obtain ⟨rfl, n, rfl, e, _⟩ := d.frz_
    exact ⟨.int ns.length, s, [], by unfold CC.fLen CC.seqItems CC.cellItems; dsimp only; rw [e]; simp, sc_end rfl⟩
  | tup us =>
    cases e
    obtain ⟨rfl, ws, rfl, ds⟩ := d.is_tup
    exact ⟨.int us.length, s, [], by unfold CC.fLen CC.seqItems; dsimp only; rw [ds.len], sc_end rfl⟩
  | _ => cases e
theorem x_fList : OpN CC.fList fList := by
  refine opN_one (fun xs h => ?_) fun {p s E B x u w Fx} d ev nd e => ?_
  · unfold fList
    split
    · exact absurd rfl (h _)
    · rfl
  unfold fList at e
  dsimp only at e
  cases q : itmsU x with
  | none => rw [q] at e; cases e
  | some us =>
    rw [q] at e
    dsimp only at e
    split at e
    · rename_i hb
      cases e
      obtain ⟨ws, F', h1, h2, h3, h4⟩ := itmsU_ok d nd q
      obtain ⟨d2, nd2⟩ := new_lst h2 hb ev h3
      exact ⟨_, _, _, by unfold CC.fList; dsimp only; rw [h1], ext_al, none_al, d2, nd2, fun a m => (List.mem_cons.mp m).elim (fun e => .inr (by rw [e]; exact rd_nxt)) fun m => .inl (h4 a m)⟩
    · cases e
theorem noO_nil (d : Ds c E B us ws F) (q : us.all noO = true) : F = [] := by
  induction d with
  | nil => rfl
  | cons d r ih =>
    simp only [List.all_cons, Bool.and_eq_true] at q
    rw [d.noO q.1, ih q.2]; rfl
theorem x_fTuple : OpN CC.fTuple fTuple := by
  refine opN_one (fun xs h => ?_) fun {p s E B x u w Fx} d ev nd e => ?_
  · unfold fTuple
    split
    · exact absurd rfl (h _)
    · rfl
  unfold fTuple at e
  dsimp only at e
  cases q : itmsU x with
  | none => rw [q] at e; cases e
  | some us =>
    rw [q] at e
    dsimp only at e
    split at e
    · rename_i hb
      cases e
      rw [Bool.and_eq_true] at hb
      obtain ⟨ws, F', h1, h2, h3, h4⟩ := itmsU_ok d nd q
      obtain rfl := noO_nil h2 hb.2
      exact ⟨_, s, [], by unfold CC.fTuple; dsimp only; rw [h1], .rfl', fun _ h => h, h2.tup hb.1, List.nodup_nil, no⟩
    · cases e
theorem x_fAbs : OpN CC.fAbs fAbs := by
  refine opN_one (fun xs h => ?_) fun {p s E B x u w Fx} d ev nd e => ?_
  · unfold fAbs
    split
    · exact absurd rfl (h _)
    · rfl
  cases x with
  | int i => obtain rfl := d.is_int; cases e; exact ⟨_, s, [], rfl, sc_end rfl⟩
  | _ => cases e
theorem x_fInt : OpN CC.fInt fInt := by
  refine opN_one (fun xs h => ?_) fun {p s E B x u w Fx} d ev nd e => ?_
  · unfold fInt
    split
    · exact absurd rfl (h _)
    · exact absurd rfl (h _)
    · rfl
  cases x with
  | int i => obtain rfl := d.is_int; cases e; exact ⟨_, s, [], rfl, sc_end rfl⟩
  | bl i => obtain rfl := d.is_bl; cases e; exact ⟨_, s, [], rfl, sc_end rfl⟩
  | _ => cases e
theorem x_fMax2 : OpN CC.fMax2 fMax2 := by
  refine opN_sc fun {p s E B xs u ws Fx} dx e => ?_
  unfold fMax2 at e
  split at e
  · cases e
    cases dx with
    | cons d r => cases r with
      | cons d2 r => cases r with
        | nil => obtain rfl := d.is_int; obtain rfl := d2.is_int; exact ⟨_, rfl, rfl⟩
  · cases e
theorem x_fMin2 : OpN CC.fMin2 fMin2 := by
  refine opN_sc fun {p s E B xs u ws Fx} dx e => ?_
  unfold fMin2 at e
  split at e
  · cases e
    cases dx with
    | cons d r => cases r with
      | cons d2 r => cases r with
        | nil => obtain rfl := d.is_int; obtain rfl := d2.is_int; exact ⟨_, rfl, rfl⟩
  · cases e
theorem x_fSum : OpN CC.fSum fSum := by
  refine opN_one (fun xs h => ?_) fun {p s E B x u w Fx} d ev nd e => ?_
  · unfold fSum
    split
    · exact absurd rfl (h _)
    · rfl
  unfold fSum at e
  dsimp only at e
  cases q : rawL x with
  | none => rw [q] at e; cases e
  | some us =>
    rw [q] at e
    dsimp only at e
    cases q2 : isIntsU us with
    | none => rw [q2] at e; cases e
    | some ns =>
      rw [q2] at e
      cases e
      obtain ⟨ws, F0, T0, h1, h2⟩ := rawL_ok d q
      exact ⟨_, s, [], by unfold CC.fSum; dsimp only; rw [h1]; dsimp only; rw [ints0_ok h2 q2], sc_end rfl⟩
theorem x_fAny : OpN CC.fAny fAny := by
  refine opN_one (fun xs h => ?_) fun {p s E B x u w Fx} d ev nd e => ?_
  · unfold fAny
    split
    · exact absurd rfl (h _)
    · rfl
  unfold fAny at e
  dsimp only at e
  cases q : rawL x with
  | none => rw [q] at e; cases e
  | some us =>
    rw [q] at e
    dsimp only at e
    cases q2 : isBlsU us with
    | none => rw [q2] at e; cases e
    | some ns =>
      rw [q2] at e
      cases e
      obtain ⟨ws, F0, T0, h1, h2⟩ := rawL_ok d q
      exact ⟨_, s, [], by unfold CC.fAny; dsimp only; rw [h1]; dsimp only; rw [bls0_ok h2 q2], sc_end rfl⟩
theorem x_fAll : OpN CC.fAll fAll := by
  refine opN_one (fun xs h => ?_) fun {p s E B x u w Fx} d ev nd e => ?_
  · unfold fAll
    split
    · exact absurd rfl (h _)
    · rfl
  unfold fAll at e
  dsimp only at e
  cases q : rawL x with
  | none => rw [q] at e; cases e
  | some us =>
    rw [q] at e
    dsimp only at e
    cases q2 : isBlsU us with
    | none => rw [q2] at e; cases e
    | some ns =>
      rw [q2] at e
      cases e
      obtain ⟨ws, F0, T0, h1, h2⟩ := rawL_ok d q
      exact ⟨_, s, [], by unfold CC.fAll; dsimp only; rw [h1]; dsimp only; rw [bls0_ok h2 q2], sc_end rfl⟩
end
end CV
set_option Elab.async false
set_option linter.all false
set_option maxRecDepth 100000
/-! CV9: + and * of lists, subscripts, slices, dicts -/
namespace CV
open PySem PySem.Spec PyProof.Rows L2
open CC (W Ob S Hh Lo R RS rd wr al nxt ItD i64 mapO)

def repU (k : Int) (a : List U) : List U := (List.replicate k.toNat a).flatten
def gAdd (x y : U) : Option U := match x, y with
  | .int i, .int j => some (.int (i + j))
  | .str a, .str b => if a.length + b.length ≤ 1000000 then some (.str (a ++ b)) else none
  | .tup a, .tup b => if a.length + b.length ≤ 1000000 then some (.tup (a ++ b)) else none
  | x, y => (match lsU x, lsU y with
    | some a, some b => if a.length + b.length ≤ 1000000 ∧ (a.all noB && b.all noB) = true then some (.lst .o (a ++ b)) else none
    | _, _ => none)
def gMul (x y : U) : Option U := match x, y with
  | .int i, .int j => if i64 i || i64 j then some (.int (i * j)) else none
  | .tup a, .int k => if a ≠ [] ∧ 2 ≤ k ∧ k ≤ 1000 ∧ a.length ≤ 1000 then some (.tup (repU k a)) else none
  | x, .int k => (match lsU x with
    | some a => if -(2 ^ 63) ≤ k ∧ k < 2 ^ 63 ∧ a.length * k.toNat ≤ 1000000 ∧ (a.all noB && a.all noO) = true then some (.lst .o (repU k a)) else none
    | none => none)
  | _, _ => none
def gIAdd (x y : U) : Option U := match x, y with
  | .int i, .int j => some (.int (i + j))
  | _, _ => none
def gISub (x y : U) : Option U := match x, y with
  | .int i, .int j => some (.int (i - j))
  | _, _ => none
def gIMul (x y : U) : Option U := match x, y with
  | .int i, .int j => if i64 i || i64 j then some (.int (i * j)) else none
  | _, _ => none
section
variable {p : Hh} {s : S} {c : Cf} {E B : Pr} {u : U} {w : W} {us us' : List U} {ws ws' : List W} {F F' T F0 T0 : List Nat} {n : Nat}
theorem nd_app (h : (F ++ F').Nodup) {G G' : List Nat} (hg : G.Nodup) (hg' : G'.Nodup) (i : ∀ a ∈ G, a ∈ F) (i' : ∀ a ∈ G', a ∈ F') : (G ++ G').Nodup :=
  List.nodup_append.mpr ⟨hg, hg', fun a m b m2 e => (List.nodup_append.mp h).2.2 a (i a m) b (i' b m2) e⟩
theorem x_gAdd : Op2 CC.gAdd gAdd := fun {p s E B x y u wx wy Fx Fy} dx dy ev nd e => by
  have nd2 := List.nodup_append.mp nd
  have lists : (match lsU x, lsU y with
    | some a, some b => if a.length + b.length ≤ 1000000 ∧ (a.all noB && b.all noB) = true then some (U.lst .o (a ++ b)) else none
    | _, _ => none) = some u → ∃ w s' F, CC.gAdd p wx wy s = some (w, s') ∧ Ext (rd p s) (rd p s') ∧ (∀ n, rd p s' n = none → rd p s n = none) ∧ D (rd p s') E B u w F ∧ F.Nodup ∧ ∀ a ∈ F, a ∈ Fx ++ Fy ∨ rd p s a = none := fun e => by
    cases q : lsU x with
    | none => rw [q] at e; cases e
    | some a =>
      cases q2 : lsU y with
      | none => rw [q, q2] at e; cases e
      | some b =>
        rw [q, q2] at e
        dsimp only at e
        split at e
        · rename_i h
          cases e
          obtain ⟨n, ws, F1, rfl, e1, d1, n1, i1⟩ := lsU_ok dx nd2.1 q
          obtain ⟨m, ws2, F2, rfl, e2, d2, n2, i2⟩ := lsU_ok dy nd2.2.1 q2
          rw [Bool.and_eq_true] at h
          obtain ⟨d, nn⟩ := new_lst (d1.app d2) (by rw [List.all_append, h.2.1, h.2.2]; rfl) ev (nd_app nd n1 n2 i1 i2)
          refine ⟨_, _, _, by
            unfold CC.gAdd; dsimp only; rw [e1, e2]; dsimp only
            rw [if_pos (by rw [← d1.len, ← d2.len]; exact h.1)], ext_al, none_al, d, nn, fun a m => ?_⟩
          rcases List.mem_cons.mp m with rfl | m
          · exact .inr rd_nxt
          · exact .inl ((List.mem_append.mp m).elim (fun m => List.mem_append_left _ (i1 a m)) fun m => List.mem_append_right _ (i2 a m))
        · cases e
  unfold gAdd at e
  split at e
  · cases e
    obtain rfl := dx.is_int
    obtain rfl := dy.is_int
    exact ⟨_, s, [], rfl, sc_end rfl⟩
  · obtain rfl := dx.is_str
    obtain rfl := dy.is_str
    split at e
    · rename_i h
      cases e
      exact ⟨_, s, [], by unfold CC.gAdd; dsimp only; rw [if_pos h], sc_end rfl⟩
    · cases e
  · obtain ⟨rfl, ws1, rfl, d1⟩ := dx.is_tup
    obtain ⟨rfl, ws2, rfl, d2⟩ := dy.is_tup
    split at e
    · rename_i h
      cases e
      refine ⟨.tup (ws1 ++ ws2), s, [], by unfold CC.gAdd; dsimp only; rw [if_pos (by rw [← d1.len, ← d2.len]; exact h)], .rfl', fun _ h => h, ?_, List.nodup_nil, no⟩
      obtain ⟨T1, Z1, q1, _, t1, _⟩ := dx
      obtain ⟨T2, Z2, q2, _, t2, _⟩ := dy
      have app : ∀ {a b : List U} {v1 v2 : List W} {T1 T2 : List Nat}, D0s (rd p s) a v1 [] T1 → D0s (rd p s) b v2 [] T2 → D0s (rd p s) (a ++ b) (v1 ++ v2) [] (T1 ++ T2) := by
        intro a
        induction a with
        | nil => intro b v1 v2 T1 T2 h1 h2; cases h1; exact h2
        | cons x a ih =>
          intro b v1 v2 T1 T2 h1 h2
          generalize hF : ([] : List Nat) = F at h1
          cases h1 with
          | @cons _ w _ vs Fa Ta Fb Tb d r =>
            obtain ⟨rfl, rfl⟩ := List.append_eq_nil_iff.mp hF.symm
            rw [List.append_assoc]
            exact .cons (F := []) d (ih r h2)
      cases q1 with
      | z q1 =>
        cases q1 with
        | tup r1 =>
          cases q2 with
          | z q2 =>
            cases q2 with
            | tup r2 => exact ⟨_, [], .z (.tup (app r1 r2)), no, fun a m => (List.mem_append.mp m).elim (t1 a) (t2 a), no⟩
    · cases e
  · exact lists e
theorem repD {k : Nat} (d : Ds c E B us ws []) : Ds c E B (List.replicate k us).flatten (List.replicate k ws).flatten [] := by
  induction k with
  | zero => exact .nil
  | succ k ih => simp only [List.replicate_succ, List.flatten_cons]; exact d.app ih
theorem rep_len {k : Nat} : ((List.replicate k us).flatten).length = us.length * k := by
  induction k with
  | zero => simp
  | succ k ih => simp only [List.replicate_succ, List.flatten_cons, List.length_append, ih, Nat.mul_succ]; omega
theorem rep_all {k : Nat} {f : U → Bool} (h : us.all f = true) : ((List.replicate k us).flatten).all f = true := by
  induction k with
  | zero => rfl
  | succ k ih => simp only [List.replicate_succ, List.flatten_cons, List.all_append, h, ih]; rfl
theorem x_gMul : Op2 CC.gMul gMul := fun {p s E B x y u wx wy Fx Fy} dx dy ev nd e => by
  have nd2 := List.nodup_append.mp nd
  unfold gMul at e
  split at e
  · obtain rfl := dx.is_int
    obtain rfl := dy.is_int
    split at e
    · rename_i h
      cases e
      exact ⟨_, s, [], by unfold CC.gMul; dsimp only; rw [if_pos h], sc_end rfl⟩
    · cases e
  · rename_i a k
    obtain ⟨rfl, ws1, rfl, d1⟩ := dx.is_tup
    obtain rfl := dy.is_int
    split at e
    · rename_i h
      cases e
      refine ⟨.tup (CC.repL k ws1), s, [], ?_, .rfl', fun _ h => h, ?_, List.nodup_nil, no⟩
      · unfold CC.gMul
        dsimp only
        rw [if_pos]
        refine ⟨fun z => h.1 ?_, h.2.1, h.2.2.1, by rw [← d1.len]; exact h.2.2.2⟩
        have := d1.len
        rw [z] at this
        exact List.length_eq_zero_iff.mp this
      · -- a tuple's parts are not lent
        have rep : ∀ (k : Nat) {T : List Nat}, D0s (rd p s) a ws1 [] T → ∃ T', D0s (rd p s) (List.replicate k a).flatten (List.replicate k ws1).flatten [] T' ∧ ∀ x ∈ T', x ∈ T := by
          intro k T r
          induction k with
          | zero => exact ⟨[], .nil, no⟩
          | succ k ih =>
            obtain ⟨T', r', t⟩ := ih
            have app : ∀ {a b : List U} {v1 v2 : List W} {T1 T2 : List Nat}, D0s (rd p s) a v1 [] T1 → D0s (rd p s) b v2 [] T2 → D0s (rd p s) (a ++ b) (v1 ++ v2) [] (T1 ++ T2) := by
              intro a
              induction a with
              | nil => intro b v1 v2 T1 T2 h1 h2; cases h1; exact h2
              | cons x a ih =>
                intro b v1 v2 T1 T2 h1 h2
                generalize hF : ([] : List Nat) = F at h1
                cases h1 with
                | @cons _ w _ vs Fa Ta Fb Tb d r =>
                  obtain ⟨rfl, rfl⟩ := List.append_eq_nil_iff.mp hF.symm
                  rw [List.append_assoc]
                  exact .cons (F := []) d (ih r h2)
            simp only [List.replicate_succ, List.flatten_cons]
            exact ⟨_, app r r', fun x m => (List.mem_append.mp m).elim id (t x)⟩
        obtain ⟨T1, Z1, q1, _, t1, _⟩ := dx
        cases q1 with
        | z q1 =>
          cases q1 with
          | tup r1 =>
            obtain ⟨T', r', t⟩ := rep k.toNat r1
            exact ⟨_, [], .z (.tup r'), no, fun a m => t1 a (t a m), no⟩
    · cases e
  · rename_i k hne1 hne2
    obtain rfl := dy.is_int
    cases q : lsU x with
    | none => rw [q] at e; cases e
    | some a =>
      rw [q] at e
      dsimp only at e
      split at e
      · rename_i h
        cases e
        rw [Bool.and_eq_true] at h
        obtain ⟨n, ws, F1, rfl, e1, d1, n1, i1⟩ := lsU_ok dx nd2.1 q
        obtain rfl := noO_nil d1 h.2.2.2.2
        obtain ⟨d, nn⟩ := new_lst (repD (k := k.toNat) d1) (rep_all h.2.2.2.1) ev List.nodup_nil
        refine ⟨_, _, _, by
          unfold CC.gMul; dsimp only; rw [e1]; dsimp only
          rw [if_pos (by rw [← d1.len]; exact ⟨h.1, h.2.1, h.2.2.1⟩)]; rfl, ext_al, none_al, d, nn, fun a m => ?_⟩
        rw [List.mem_singleton.mp m]
        exact .inr rd_nxt
      · cases e
  · cases e
theorem x_gIAdd : Op2 CC.gIAdd gIAdd := by
  refine op2_sc fun {p s E B x y u wx wy Fx Fy} dx dy e => ?_
  cases x <;> first | cases e | skip
  cases y <;> first | cases e | skip
  obtain rfl := dx.is_int
  obtain rfl := dy.is_int
  exact ⟨_, rfl, rfl⟩
theorem x_gISub : Op2 CC.gISub gISub := by
  refine op2_sc fun {p s E B x y u wx wy Fx Fy} dx dy e => ?_
  cases x <;> first | cases e | skip
  cases y <;> first | cases e | skip
  obtain rfl := dx.is_int
  obtain rfl := dy.is_int
  exact ⟨_, rfl, rfl⟩
theorem x_gIMul : Op2 CC.gIMul gIMul := by
  refine op2_sc fun {p s E B x y u wx wy Fx Fy} dx dy e => ?_
  cases x <;> first | cases e | skip
  cases y <;> first | cases e | skip
  obtain rfl := dx.is_int
  obtain rfl := dy.is_int
  unfold gIMul at e
  unfold CC.gIMul
  dsimp only at e ⊢
  split at e
  · rename_i h
    cases e
    rw [if_pos h]
    exact ⟨_, rfl, rfl⟩
  · cases e
end
/-! ### o[i] -/
def keyU : U → Option Key
  | .int i => some (.inl i)
  | .str z => some (.inr z)
  | _ => none
def keysU : U → Option (List Key)
  | .tup us => mapO keyU us
  | _ => none
section
variable {κ : Type} [DecidableEq κ]
def valU (k : κ) : List (κ × U) → Option U
  | [] => none
  | (j, w) :: r => if j = k then some w else valU k r
def setU (k : κ) (w : U) : List (κ × U) → List (κ × U)
  | [] => []
  | (j, u) :: r => if j = k then (j, w) :: setU k w r else (j, u) :: setU k w r
def hasU (k : κ) : List (κ × U) → Bool
  | [] => false
  | (j, _) :: r => if j = k then true else hasU k r
def putKU (kvs : List (κ × U)) (k : κ) (w : U) : List (κ × U) := if hasU k kvs then setU k w kvs else kvs ++ [(k, w)]
end
def gDic (o i : U) : Option (Option U) := match o with
  | .dct z kvs => (match keyU i with | some k => some ((valU k kvs).map (itm z)) | none => none)
  | .dtt z kvs => (match keysU i with | some k => some ((valU k kvs).map (itm z)) | none => none)
  | _ => none
def getI (us : List U) (i : U) : Option U := match i with
  | .int j => atI us j
  | _ => none
def gIx (o i : U) : Option U := match o with
  | .str z => (match i with
    | .int j => if z.length ≤ 1000000 then (match atI z.cps.toList j with | some c => some (.str ⟨#[c]⟩) | none => none) else none
    | _ => none)
  | .lst z us => (getI us i).map (itm z)
  | .tup us => getI us i
  | .frz ns => getI (ns.map U.int) i
  | o => (match gDic o i with
    | some (some w) => some w
    | _ => none)
section
variable {p : Hh} {s : S} {c : Cf} {E B : Pr} {u : U} {w : W} {us us' : List U} {ws ws' : List W} {F F' T F0 T0 : List Nat} {n : Nat}
theorem key_ok {k : Key} (d : D c E B u w F) (h : keyU u = some k) : CC.keyW w = some k := by
  cases u with
  | int i => obtain rfl := d.is_int; exact h
  | str i => obtain rfl := d.is_str; exact h
  | _ => cases h
theorem keys_ok0 : ∀ {us : List U} {ws : List W} {F : List Nat} {ks : List Key}, Ds c E B us ws F → mapO keyU us = some ks → mapO CC.keyW ws = some ks := by
  intro us
  induction us with
  | nil => intro ws F ks d e; cases d; exact e
  | cons u us ih =>
    intro ws F ks d e
    cases d with
    | cons d r =>
      unfold mapO at e ⊢
      cases q : keyU u with
      | none => rw [q] at e; cases e
      | some x =>
        rw [q] at e
        rw [key_ok d q]
        cases q2 : mapO keyU us with
        | none => rw [q2] at e; cases e
        | some y => rw [q2] at e; rw [ih r q2]; exact e
theorem keys_ok {k : List Key} (d : D c E B u w F) (h : keysU u = some k) : CC.keysW w = some k := by
  cases u with
  | tup us =>
    obtain ⟨_, ws, rfl, ds⟩ := d.is_tup
    exact keys_ok0 ds h
  | _ => cases h
theorem val_ok {κ : Type} [DecidableEq κ] {k : κ} : ∀ {kvs : List (κ × U)} {kws : List (κ × W)} {F T : List Nat}, kvs.map (·.1) = kws.map (·.1) → D0s c (kvs.map (·.2)) (kws.map (·.2)) F T → (valU k kvs = none → CC.valW k kws = none) ∧ ∀ u, valU k kvs = some u → ∃ w F' T', CC.valW k kws = some w ∧ D0 c u w F' T' ∧ (∀ a ∈ F', a ∈ F) ∧ (∀ a ∈ T', a ∈ T) ∧ (F.Nodup → F'.Nodup)
  | [], [], F, T, h, d => ⟨fun _ => rfl, fun u e => by cases e⟩
  | [], _ :: _, F, T, h, d => by cases h
  | _ :: _, [], F, T, h, d => by cases h
  | (j, u) :: kvs, (j', w) :: kws, F, T, h, d => by
    simp only [List.map_cons, List.cons.injEq] at h
    obtain ⟨rfl, h⟩ := h
    cases d with
    | @cons _ _ _ _ Fa Ta Fb Tb d r =>
      obtain ⟨i1, i2⟩ := val_ok (k := k) h r
      unfold valU CC.valW
      by_cases e : j = k
      · rw [if_pos e, if_pos e]
        exact ⟨fun z => (nomatch z), fun u' z => by cases z; exact ⟨w, Fa, Ta, rfl, d, fun a m => List.mem_append_left _ m, fun a m => List.mem_append_left _ m, fun nd => (List.nodup_append.mp nd).1⟩⟩
      · rw [if_neg e, if_neg e]
        refine ⟨i1, fun u' z => ?_⟩
        obtain ⟨w', F', T', h1, h2, h3, h4, h5⟩ := i2 u' z
        exact ⟨w', F', T', h1, h2, fun a m => List.mem_append_right _ (h3 a m), fun a m => List.mem_append_right _ (h4 a m), fun nd => h5 (List.nodup_append.mp nd).2.1⟩
/-- a dict's node -/
theorem D.dct {z : Fl} {kvs : List (Key × U)} (h : D c E B (.dct z kvs) w F) : ∃ n kws F0 T0, w = .ref n ∧ c n = some (.dct kws) ∧ kvs.map (·.1) = kws.map (·.1) ∧ D0s c (kvs.map (·.2)) (kws.map (·.2)) F0 T0 ∧ Fg E B z n F0 T0 F := by
  rcases h.node with h | ⟨_, h⟩ | ⟨_, h⟩ | ⟨_, h⟩ | ⟨_, h⟩ | ⟨z', us', n, ob, ws, F0, T0, rfl, e, k, r, f⟩ <;> first | cases h | skip
  cases k with
  | dct hk => exact ⟨n, _, F0, T0, rfl, e, hk, r, f⟩
theorem D.dtt {z : Fl} {kvs : List (List Key × U)} (h : D c E B (.dtt z kvs) w F) : ∃ n kws F0 T0, w = .ref n ∧ c n = some (.dtt kws) ∧ kvs.map (·.1) = kws.map (·.1) ∧ D0s c (kvs.map (·.2)) (kws.map (·.2)) F0 T0 ∧ Fg E B z n F0 T0 F := by
  rcases h.node with h | ⟨_, h⟩ | ⟨_, h⟩ | ⟨_, h⟩ | ⟨_, h⟩ | ⟨z', us', n, ob, ws, F0, T0, rfl, e, k, r, f⟩ <;> first | cases h | skip
  cases k with
  | dtt hk => exact ⟨n, _, F0, T0, rfl, e, hk, r, f⟩
theorem D.ins {z : Fl} {k : Nat} {fs : List (Nat × U)} (h : D c E B (.ins z k fs) w F) : ∃ n gs F0 T0, w = .ref n ∧ c n = some (.ins k gs) ∧ fs.map (·.1) = gs.map (·.1) ∧ D0s c (fs.map (·.2)) (gs.map (·.2)) F0 T0 ∧ Fg E B z n F0 T0 F := by
  rcases h.node with h | ⟨_, h⟩ | ⟨_, h⟩ | ⟨_, h⟩ | ⟨_, h⟩ | ⟨z', us', n, ob, ws, F0, T0, rfl, e, k, r, f⟩ <;> first | cases h | skip
  cases k with
  | ins hk => exact ⟨n, _, F0, T0, rfl, e, hk, r, f⟩
theorem item_nd {z : Fl} {Fx F' : List Nat} (g : Fg E B z n F0 T0 Fx) (nd : Fx.Nodup) (h : F.Nodup ∨ ¬ F0.Nodup) (e : F' = F ∨ F' = []) : F'.Nodup ∨ (z ≠ .o) := by
  rcases e with e | e
  · by_cases hz : z = .o
    · rw [e]
      exact .inl (h.elim id fun q => absurd (g.nd nd hz) q)
    · exact .inr hz
  · rw [e]; exact .inl List.nodup_nil
/-- the item, with nothing own but of a list of one's own -/
theorem item_ok' {z : Fl} {Fx : List Nat} (d : D0 c u w F T) (g : Fg E B z n F0 T0 Fx) (nd : Fx.Nodup) (hF : ∀ a ∈ F, a ∈ F0) (hT : ∀ a ∈ T, a ∈ T0) (hn : F0.Nodup → F.Nodup) : ∃ F', D c E B (itm z u) w F' ∧ (∀ a ∈ F', a ∈ Fx) ∧ F'.Nodup := by
  cases z with
  | o => exact ⟨F, ⟨T, [], .z d, fun a m => g.2.1 a (List.mem_cons_of_mem _ (hF a m)), fun a m => g.2.2 a (hT a m), no⟩, fun a m => by rw [g.1]; exact List.mem_cons_of_mem _ (hF a m), hn (g.nd nd rfl)⟩
  | s =>
    obtain ⟨T', d', t⟩ := d.frz
    exact ⟨[], ⟨T', [], .z d', no, fun a m => (t a m).elim (fun m => g.2.2.1 a (hF a m)) fun m => g.2.2.2 a (hT a m), no⟩, no, List.nodup_nil⟩
  | b =>
    obtain ⟨T', Z', d', t, z⟩ := d.bor
    exact ⟨[], ⟨T', Z', d', no, fun a m => g.2.2 a (hT a (t a m)), fun a m => g.2.1 a (List.mem_cons_of_mem _ (hF a (z a m)))⟩, no, List.nodup_nil⟩
theorem dic_ok {o i : U} {wo wi : W} {Fo Fi : List Nat} {r : Option U} (dO : D (rd p s) E B o wo Fo) (di : D (rd p s) E B i wi Fi) (nd : Fo.Nodup) (h : gDic o i = some r) : ∃ r', CC.gDic p wo wi s = some r' ∧ (r = none → r' = none) ∧ ∀ u, r = some u → ∃ w F, r' = some w ∧ D (rd p s) E B u w F ∧ (∀ a ∈ F, a ∈ Fo) ∧ F.Nodup := by
  cases o with
  | dct z kvs =>
    obtain ⟨n, kws, F0, T0, rfl, e, hk, ds, g⟩ := dO.dct
    unfold gDic at h
    dsimp only at h
    cases q : keyU i with
    | none => rw [q] at h; cases h
    | some k =>
      rw [q] at h
      cases h
      obtain ⟨v1, v2⟩ := val_ok (k := k) hk ds
      refine ⟨CC.valW k kws, by unfold CC.gDic; dsimp only; rw [e]; dsimp only; rw [key_ok di q], fun z => v1 (by simpa using z), fun u z => ?_⟩
      rw [Option.map_eq_some_iff] at z
      obtain ⟨u0, z, rfl⟩ := z
      obtain ⟨w, F', T', h1, h2, h3, h4, h5⟩ := v2 u0 z
      obtain ⟨F2, d2, i2, n2⟩ := item_ok' h2 g nd h3 h4 h5
      exact ⟨w, F2, h1, d2, i2, n2⟩
  | dtt z kvs =>
    obtain ⟨n, kws, F0, T0, rfl, e, hk, ds, g⟩ := dO.dtt
    unfold gDic at h
    dsimp only at h
    cases q : keysU i with
    | none => rw [q] at h; cases h
    | some k =>
      rw [q] at h
      cases h
      obtain ⟨v1, v2⟩ := val_ok (k := k) hk ds
      refine ⟨CC.valW k kws, by unfold CC.gDic; dsimp only; rw [e]; dsimp only; rw [keys_ok di q], fun z => v1 (by simpa using z), fun u z => ?_⟩
      rw [Option.map_eq_some_iff] at z
      obtain ⟨u0, z, rfl⟩ := z
      obtain ⟨w, F', T', h1, h2, h3, h4, h5⟩ := v2 u0 z
      obtain ⟨F2, d2, i2, n2⟩ := item_ok' h2 g nd h3 h4 h5
      exact ⟨w, F2, h1, d2, i2, n2⟩
  | _ => cases h
theorem atI_len {α β : Type} {xs : List α} {ys : List β} {j : Int} {x : α} (h : xs.length = ys.length) (e : atI xs j = some x) : ∃ k : Nat, xs[k]? = some x ∧ ∀ y, ys[k]? = some y → atI ys j = some y := by
  unfold atI at e ⊢
  rw [← h]
  cases q : ixN xs.length j with
  | none => rw [q] at e; cases e
  | some k => rw [q] at e; exact ⟨k, e, fun y hy => hy⟩
theorem x_gIx : Op2 CC.gIx gIx := fun {p s E B x y u wx wy Fx Fy} dx dy ev nd e => by
  have nd2 := List.nodup_append.mp nd
  have fin : ∀ {w F}, CC.gIx p wx wy s = some (w, s) → D (rd p s) E B u w F → (∀ a ∈ F, a ∈ Fx) → F.Nodup → ∃ w s' F, CC.gIx p wx wy s = some (w, s') ∧ Ext (rd p s) (rd p s') ∧ (∀ n, rd p s' n = none → rd p s n = none) ∧ D (rd p s') E B u w F ∧ F.Nodup ∧ ∀ a ∈ F, a ∈ Fx ++ Fy ∨ rd p s a = none := fun h d i n => ⟨_, s, _, h, .rfl', fun _ h => h, d, n, fun a m => .inl (List.mem_append_left _ (i a m))⟩
  cases x with
  | str z =>
    obtain rfl := dx.is_str
    cases y with
    | int j =>
      obtain rfl := dy.is_int
      unfold gIx at e
      dsimp only at e
      split at e
      · rename_i h
        cases q : atI z.cps.toList j with
        | none => rw [q] at e; cases e
        | some ch =>
          rw [q] at e
          cases e
          exact fin (by unfold CC.gIx; dsimp only; rw [if_pos h, q]) d_str no List.nodup_nil
      · cases e
    | _ => cases e
  | lst z us =>
    cases y with
    | int j =>
      obtain rfl := dy.is_int
      obtain ⟨n, ws, F0, T0, rfl, e2, r, g⟩ := dx.lst
      unfold gIx getI at e
      rw [Option.map_eq_some_iff] at e
      obtain ⟨u0, e, rfl⟩ := e
      obtain ⟨k, h1, h2⟩ := atI_len r.len e
      obtain ⟨w, F', T', g1, g2, g3, g4, g5⟩ := r.get h1
      obtain ⟨F2, d2, i2, n2⟩ := item_ok' g2 g nd2.1 g3 g4 g5
      exact fin (by unfold CC.gIx CC.seqItems CC.cellItems; dsimp only; rw [e2]; dsimp only; rw [h2 w g1]) d2 i2 n2
    | _ => cases e
  | tup us =>
    cases y with
    | int j =>
      obtain rfl := dy.is_int
      obtain ⟨rfl, ws, rfl, ds⟩ := dx.is_tup
      unfold gIx getI at e
      dsimp only at e
      obtain ⟨k, h1, h2⟩ := atI_len ds.len e
      have get : ∀ {us : List U} {ws : List W} {k : Nat} {u : U}, Ds (rd p s) E B us ws [] → us[k]? = some u → ∃ w, ws[k]? = some w ∧ D (rd p s) E B u w [] := by
        intro us
        induction us with
        | nil => intro ws k u _ h; simp at h
        | cons x us ih =>
          intro ws k u d h
          rcases d.nil_of rfl with ⟨e, _⟩ | ⟨u', w, us', ws', e, rfl, d1, d2⟩
          · cases e
          · cases e
            cases k with
            | zero => simp at h; subst h; exact ⟨w, rfl, d1⟩
            | succ k =>
              obtain ⟨w', q1, q2⟩ := ih d2 (by simpa using h)
              exact ⟨w', by simpa using q1, q2⟩
      obtain ⟨w, q1, q2⟩ := get ds h1
      exact fin (by unfold CC.gIx CC.seqItems; dsimp only; rw [h2 w q1]) q2 no List.nodup_nil
    | _ => cases e
  | frz ns =>
    cases y with
    | int j =>
      obtain rfl := dy.is_int
      obtain ⟨rfl, n, rfl, e2, _⟩ := dx.frz_
      unfold gIx getI at e
      dsimp only at e
      obtain ⟨k, h1, h2⟩ := atI_len (ys := ns.map W.int) (by simp) e
      rw [List.getElem?_map] at h1
      cases q : ns[k]? with
      | none => rw [q] at h1; cases h1
      | some i =>
        rw [q] at h1
        cases h1
        exact fin (by unfold CC.gIx CC.seqItems CC.cellItems; dsimp only; rw [e2]; dsimp only; rw [h2 (.int i) (by rw [List.getElem?_map, q]; rfl)]) d_int no List.nodup_nil
    | _ => cases e
  | dct z kvs =>
    unfold gIx at e
    dsimp only at e
    cases q : gDic (.dct z kvs) y with
    | none => rw [q] at e; cases e
    | some r =>
      rw [q] at e
      cases r with
      | none => cases e
      | some u' =>
        cases e
        obtain ⟨r', h1, _, h2⟩ := dic_ok dx dy nd2.1 q
        obtain ⟨w, F, rfl, d, i, n⟩ := h2 u rfl
        obtain ⟨nn, kws, _, _, rfl, e2, _⟩ := dx.dct
        exact fin (by unfold CC.gIx CC.seqItems CC.cellItems; dsimp only; rw [e2]; dsimp only; rw [h1]) d i n
  | dtt z kvs =>
    unfold gIx at e
    dsimp only at e
    cases q : gDic (.dtt z kvs) y with
    | none => rw [q] at e; cases e
    | some r =>
      rw [q] at e
      cases r with
      | none => cases e
      | some u' =>
        cases e
        obtain ⟨r', h1, _, h2⟩ := dic_ok dx dy nd2.1 q
        obtain ⟨w, F, rfl, d, i, n⟩ := h2 u rfl
        obtain ⟨nn, kws, _, _, rfl, e2, _⟩ := dx.dtt
        exact fin (by unfold CC.gIx CC.seqItems CC.cellItems; dsimp only; rw [e2]; dsimp only; rw [h1]) d i n
  | _ => cases e
end
/-! in -/
def gInA (x y : U) : Option U := match gDic y x with
  | some r => some (.bl r.isSome)
  | none => (match gInB x y with | some b => some (.bl b) | none => none)
def gNotInA (x y : U) : Option U := match gDic y x with
  | some r => some (.bl (!r.isSome))
  | none => (match gInB x y with | some b => some (.bl (!b)) | none => none)
section
variable {p : Hh} {s : S} {E B : Pr} {x y : U} {wx wy : W} {Fx Fy : List Nat}
theorem datU_dct {d : PyData} (dy : D (rd p s) E B y wy Fy) (e : datU 12 y = some d) (h : ∀ ds, d = .list ds ∨ d = .tuple ds → CC.gDic p wy wx s = none) (hd : ∃ ds, d = .list ds ∨ d = .tuple ds) : CC.gDic p wy wx s = none := by
  obtain ⟨ds, hd⟩ := hd
  exact h ds hd
theorem gDic_none {b : Bool} (dy : D (rd p s) E B y wy Fy) (h : gInB x y = some b) : CC.gDic p wy wx s = none := by
  have ht : ∀ d, datU 12 y = some d → (∃ ds, d = .list ds ∨ d = .tuple ds) → CC.gDic p wy wx s = none := fun d e hd => by
    obtain ⟨ds, hd⟩ := hd
    cases y with
    | lst z us => obtain ⟨n, ws, _, _, rfl, e2, _⟩ := dy.lst; unfold CC.gDic; dsimp only; rw [e2]
    | tup us => obtain ⟨_, ws, rfl, _⟩ := dy.is_tup; rfl
    | frz ns => obtain ⟨_, n, rfl, e2, _⟩ := dy.frz_; unfold CC.gDic; dsimp only; rw [e2]
    | dct z kvs =>
      cases kvs with
      | nil => cases e; rcases hd with hd | hd <;> cases hd
      | cons _ _ => cases e
    | non => cases e; rcases hd with hd | hd <;> cases hd
    | bl _ => cases e; rcases hd with hd | hd <;> cases hd
    | int _ => cases e; rcases hd with hd | hd <;> cases hd
    | str _ => cases e; rcases hd with hd | hd <;> cases hd
    | _ => cases e
  unfold gInB at h
  split at h
  · rename_i e; exact ht _ e ⟨_, .inl rfl⟩
  · rename_i e; exact ht _ e ⟨_, .inr rfl⟩
  · cases h
theorem x_gInA : Op2 CC.gInA gInA := fun {p s E B x y u wx wy Fx Fy} dx dy ev nd e => by
  have nd2 := List.nodup_append.mp nd
  unfold gInA at e
  cases q : gDic y x with
  | some r =>
    rw [q] at e
    cases e
    obtain ⟨r', h1, h2, h3⟩ := dic_ok dy dx nd2.2.1 q
    refine ⟨.bl r.isSome, s, [], ?_, sc_end rfl⟩
    unfold CC.gInA
    rw [h1]
    cases r with
    | none => rw [h2 rfl]; rfl
    | some u => obtain ⟨w, F, rfl, _⟩ := h3 u rfl; rfl
  | none =>
    rw [q] at e
    dsimp only at e
    cases q2 : gInB x y with
    | none => rw [q2] at e; cases e
    | some b =>
      rw [q2] at e
      cases e
      refine ⟨.bl b, s, [], ?_, sc_end rfl⟩
      unfold CC.gInA CC.gIn
      rw [gDic_none dy q2, inB_ok dx dy q2]
theorem x_gNotInA : Op2 CC.gNotInA gNotInA := fun {p s E B x y u wx wy Fx Fy} dx dy ev nd e => by
  have nd2 := List.nodup_append.mp nd
  unfold gNotInA at e
  cases q : gDic y x with
  | some r =>
    rw [q] at e
    cases e
    obtain ⟨r', h1, h2, h3⟩ := dic_ok dy dx nd2.2.1 q
    refine ⟨.bl (!r.isSome), s, [], ?_, sc_end rfl⟩
    unfold CC.gNotInA
    rw [h1]
    cases r with
    | none => rw [h2 rfl]; rfl
    | some u => obtain ⟨w, F, rfl, _⟩ := h3 u rfl; rfl
  | none =>
    rw [q] at e
    dsimp only at e
    cases q2 : gInB x y with
    | none => rw [q2] at e; cases e
    | some b =>
      rw [q2] at e
      cases e
      refine ⟨.bl (!b), s, [], ?_, sc_end rfl⟩
      unfold CC.gNotInA CC.gNotIn
      rw [gDic_none dy q2, inB_ok dx dy q2]
end
end CV
set_option Elab.async false
set_option linter.all false
set_option maxRecDepth 100000
/-! CV10: slices, dicts, attributes, isinstance, reading methods, chains -/
namespace CV
open PySem PySem.Spec PyProof.Rows L2
open CC (W Ob S Hh Lo R RS rd wr al nxt ItD i64 mapO TK)

def relO : Rl (Option Int) (Option Int) := fun _ _ _ b b' F => b = b' ∧ F = []
theorem rmO : RM relO := ⟨fun h _ _ _ => h, fun h a m => by rw [h.2] at m; cases m⟩
def oNo : VL → RU (Option Int) := fun v => .ok none v
def oSo (ma : VL → RU U) : VL → RU (Option Int) := fun v => (ma v).bind fun u v1 => match u with
  | .int i => .ok (some i) v1
  | _ => .bad
def cutU (xs : List U) (lo hi : Option Int) : List U := (xs.drop (HT.sIx xs.length 0 lo)).take (HT.sIx xs.length xs.length hi - HT.sIx xs.length 0 lo)
def gSl (o : U) (lo hi : Option Int) : Option U := match o with
  | .tup us => some (.tup (cutU us lo hi))
  | o => (match lfU o with
    | some us => if (cutU us lo hi).all noB then some (.lst .o (cutU us lo hi)) else none
    | none => none)
def eSl (mo : VL → RU U) (ml mh : VL → RU (Option Int)) : VL → RU U := fun v => (mo v).bind fun o v1 => (ml v1).bind fun lo v2 => (mh v2).bind fun hi v3 => ofO (gSl o lo hi) v3
def eRev (mo : VL → RU U) : VL → RU U := fun v => (mo v).bind fun o v1 => match lfU o with
  | some us => if us.all noB then .ok (.lst .o us.reverse) v1 else .bad
  | none => .bad
def RRg : Rl (List U) ItD := fun c E B us d F => F = [] ∧ ∃ lo st n, d = .rng lo st n ∧ us = rngU lo st n
def eRgL (mi : VL → RU (List U)) : VL → RU U := fun v => (mi v).bind fun us v1 => if us.length ≤ 1000000 then .ok (.lst .o us) v1 else .bad
def eDct : VL → RU U := fun v => .ok (.dct .o []) v
def eDtt : VL → RU U := fun v => .ok (.dtt .o []) v
def eDis1 (mk mv : VL → RU U) : VL → RU U := fun v => (mk v).bind fun k v1 => (mv v1).bind fun u v2 => match keyU k with
  | some k => if noB u then .ok (.dct .o [(k, u)]) v2 else .bad
  | none => .bad
def isDicU : U → Bool
  | .dct _ _ => true
  | .dtt _ _ => true
  | _ => false
def eGet2 (mo mi md : VL → RU U) : VL → RU U := fun v => (mo v).bind fun o v1 => if isDicU o then (mi v1).bind fun i v2 => (md v2).bind fun d v3 => (match gDic o i with
  | some (some w) => .ok w v3
  | some none => .ok d v3
  | none => .bad) else .bad
def eGet1 (mo mi : VL → RU U) : VL → RU U := fun v => (mo v).bind fun o v1 => if isDicU o then (mi v1).bind fun i v2 => (match gDic o i with
  | some (some w) => .ok w v2
  | some none => .ok .non v2
  | none => .bad) else .bad
def lookFU (i : Nat) : List (Nat × U) → Option U
  | [] => none
  | (j, w) :: r => if i = j then some w else lookFU i r
def eFld (k i : Nat) (mo : VL → RU U) : VL → RU U := fun v => (mo v).bind fun o v1 => match o with
  | .ins z d fs => if d = k then (match lookFU i fs with | some u => .ok (itm z u) v1 | none => .bad) else .bad
  | _ => .bad
def tyU : U → TK
  | .non => .non
  | .bl _ => .bl
  | .int _ => .int
  | .str _ => .str
  | .tup _ => .tup
  | .lst _ _ => .lst
  | .frz _ => .lst
  | .dct _ _ => .dct
  | .dtt _ _ => .dct
  | .ins _ c _ => .own c
def eIsi (q : TK → Option Bool) (ma : VL → RU U) : VL → RU U := fun v => (ma v).bind fun u v1 => match q (tyU u) with
  | some b => .ok (.bl b) v1
  | none => .bad
/-- a method that writes nothing -/
def eBm (f : U → List U → Option U) (mo : VL → RU U) (mr : VL → RU (List U)) : VL → RU U := fun v => (mo v).bind fun o v1 => match rawL o with
  | some _ => (mr v1).bind fun us v2 => ofO (f o us) v2
  | none => .bad
def fIndex (o : U) (xs : List U) : Option U := match xs with
  | [.int i] => (match rawL o with
    | some us => (match isIntsU us with
      | some ns => (match CC.ixFst i ns with | some j => some (.int (j : Nat)) | none => none)
      | none => none)
    | none => none)
  | _ => none
def fCount (o : U) (xs : List U) : Option U := match xs with
  | [.int i] => (match rawL o with
    | some us => (match isIntsU us with
      | some ns => some (.int (ns.count i : Nat))
      | none => none)
    | none => none)
  | _ => none
section
variable {C : Ct} {md : Bool} {c c1 : Cf} {E E1 K K1 B : Pr} {l : Lo} {vl : VL} {s : S} {Fs : Nat → List Nat}
theorem sim_oNo : Sim C md relO oNo CC.oNo := fun s l vl E K B Fs r => ⟨_, s, E, [], Fs, rfl, .rfl', r, ⟨rfl, rfl⟩, .nil⟩
theorem sim_oSo {a : VL → RU U} {ma : Lo → S → R W} (ha : SimE C md a ma) : Sim C md relO (oSo a) (CC.oSo ma) := fun s l vl E K B Fs r => by
  refine (ha s l vl E K B Fs r).bind r.bk fun u v w s2 E2 F Fs2 k2 r2 d f => ?_
  cases u with
  | int i => obtain rfl := d.is_int; exact ⟨_, s2, E2, [], Fs2, rfl, k2, r2, ⟨rfl, rfl⟩, .nil⟩
  | _ => trivial
theorem Ds.drop {us : List U} {ws : List W} {F : List Nat} (h : Ds c E B us ws F) (nd : F.Nodup) : ∀ k : Nat, ∃ F', Ds c E B (us.drop k) (ws.drop k) F' ∧ F'.Nodup ∧ ∀ a ∈ F', a ∈ F := by
  induction h with
  | nil => intro k; exact ⟨[], by simp; exact .nil, List.nodup_nil, no⟩
  | cons d r ih =>
    intro k
    have nd2 := List.nodup_append.mp nd
    cases k with
    | zero => exact ⟨_, .cons d r, nd, fun a h => h⟩
    | succ k =>
      obtain ⟨F', h1, h2, h3⟩ := ih nd2.2.1 k
      exact ⟨F', h1, h2, fun a m => List.mem_append_right _ (h3 a m)⟩
theorem Ds.take {us : List U} {ws : List W} {F : List Nat} (h : Ds c E B us ws F) (nd : F.Nodup) : ∀ k : Nat, ∃ F', Ds c E B (us.take k) (ws.take k) F' ∧ F'.Nodup ∧ ∀ a ∈ F', a ∈ F := by
  induction h with
  | nil => intro k; exact ⟨[], by simp; exact .nil, List.nodup_nil, no⟩
  | cons d r ih =>
    intro k
    have nd2 := List.nodup_append.mp nd
    cases k with
    | zero => exact ⟨[], .nil, List.nodup_nil, no⟩
    | succ k =>
      obtain ⟨F', h1, h2, h3⟩ := ih nd2.2.1 k
      exact ⟨_, .cons d h1, List.nodup_append.mpr ⟨nd2.1, h2, fun a m b m2 e => nd2.2.2 a m b (h3 b m2) e⟩, fun a m => (List.mem_append.mp m).elim (List.mem_append_left _) fun m => List.mem_append_right _ (h3 a m)⟩
theorem cut_ok {us : List U} {ws : List W} {F : List Nat} {lo hi : Option Int} (h : Ds c E B us ws F) (nd : F.Nodup) : ∃ F', Ds c E B (cutU us lo hi) (CC.cutW ws lo hi) F' ∧ F'.Nodup ∧ ∀ a ∈ F', a ∈ F := by
  unfold cutU CC.cutW
  rw [h.len]
  obtain ⟨F1, h1, n1, i1⟩ := h.drop nd (HT.sIx ws.length 0 lo)
  obtain ⟨F2, h2, n2, i2⟩ := h1.take n1 (HT.sIx ws.length ws.length hi - HT.sIx ws.length 0 lo)
  exact ⟨F2, h2, n2, fun a m => i1 a (i2 a m)⟩
theorem tup_cut {us : List U} {ws : List W} {lo hi : Option Int} (d : D c E B (.tup us) (.tup ws) []) : D c E B (.tup (cutU us lo hi)) (.tup (CC.cutW ws lo hi)) [] := by
  obtain ⟨T, Z, q, _, t, _⟩ := d
  cases q with
  | z q =>
    cases q with
    | tup r =>
      have hl := r.len
      have sub : ∀ {us : List U} {ws : List W} {T : List Nat}, D0s c us ws [] T → ∀ k : Nat, (∃ T', D0s c (us.drop k) (ws.drop k) [] T' ∧ ∀ a ∈ T', a ∈ T) ∧ ∃ T', D0s c (us.take k) (ws.take k) [] T' ∧ ∀ a ∈ T', a ∈ T := by
        intro us
        induction us with
        | nil => intro ws T r k; cases r; exact ⟨⟨[], by simp; exact .nil, no⟩, ⟨[], by simp; exact .nil, no⟩⟩
        | cons x us ih =>
          intro ws T r k
          generalize hF : ([] : List Nat) = F at r
          cases r with
          | @cons _ w _ vs Fa Ta Fb Tb d r =>
            obtain ⟨rfl, rfl⟩ := List.append_eq_nil_iff.mp hF.symm
            cases k with
            | zero => exact ⟨⟨_, .cons (F := []) d r, fun a h => h⟩, ⟨[], .nil, no⟩⟩
            | succ k =>
              obtain ⟨⟨T1, h1, t1⟩, ⟨T2, h2, t2⟩⟩ := ih r k
              exact ⟨⟨T1, h1, fun a m => List.mem_append_right _ (t1 a m)⟩, ⟨_, .cons (F := []) d h2, fun a m => (List.mem_append.mp m).elim (List.mem_append_left _) fun m => List.mem_append_right _ (t2 a m)⟩⟩
      unfold cutU CC.cutW
      rw [hl]
      obtain ⟨⟨T1, h1, t1⟩, _⟩ := sub r (HT.sIx ws.length 0 lo)
      obtain ⟨_, ⟨T2, h2, t2⟩⟩ := sub h1 (HT.sIx ws.length ws.length hi - HT.sIx ws.length 0 lo)
      exact ⟨T2, [], .z (.tup h2), no, fun a m => t a (t1 a (t2 a m)), no⟩
theorem sim_sl {o : VL → RU U} {mo : Lo → S → R W} {ml mh : VL → RU (Option Int)} {ml' mh' : Lo → S → R (Option Int)} (ho : SimE C md o mo) (hl : Sim C md relO ml ml') (hh : Sim C md relO mh mh') : SimE C md (eSl o ml mh) (CC.eSl C.p mo ml' mh') := fun s l vl E K B Fs r => by
  refine Aft.two (rel3 := D) rmD rmO ho hl r fun x lo v wx wlo s2 E2 F1 F2 Fs2 k2 r2 d1 d2 f2 => ?_
  obtain ⟨rfl, rfl⟩ := d2
  rw [List.append_nil] at f2
  refine (hh s2 l v E2 (kU K F1) B Fs2 (r2.grow f2 (rmD.al d1))).bindK k2 (fun n h => .inl h) r.bk fun hi v3 whi s3 E3 F3 Fs3 k3 r3 d3 f3 => ?_
  obtain ⟨rfl, rfl⟩ := d3
  have d1' := d1.mono k3 r3.bk fun a m => .inr m
  have f1' : Fr F1 K Fs3 := ⟨f2.1, fun a m => ⟨(f2.2 a m).1, fun i => r3.sep r.bk m (f2.2 a m).1 i⟩⟩
  have kk := k2.trans (k3.weak fun n h => .inl h)
  have r3' := r3.weak (K := K) (fun n h => .inl h) r.bk
  have lists : (match lfU x with
    | some us => if (cutU us lo hi).all noB then some (U.lst .o (cutU us lo hi)) else none
    | none => none) = gSl x lo hi → Aft C md (rd C.p s) E K B l D (ofO (gSl x lo hi) v3) (CC.R.ofO (CC.gSl C.p wx lo hi s3)) := fun h => by
    rw [← h]
    cases q : lfU x with
    | none => trivial
    | some us =>
      dsimp only
      split
      · rename_i hb
        obtain ⟨n, ws, F', rfl, e, ds, nd, i⟩ := lfU_ok d1' f1'.1 q
        obtain ⟨F2, ds2, nd2, i2⟩ := cut_ok (lo := lo) (hi := hi) ds nd
        obtain ⟨d, nn⟩ := new_lst ds2 hb r3'.ev nd2
        unfold CC.gSl
        dsimp only
        rw [e]
        exact fin_ext kk r3' f1' ext_al none_al d nn fun a m => (List.mem_cons.mp m).elim (fun e => .inr (by rw [e]; exact rd_nxt)) fun m => .inl (i a (i2 a m))
      · trivial
  cases x with
  | tup us =>
    obtain ⟨rfl, ws, rfl, ds⟩ := d1'.is_tup
    exact ⟨.tup (CC.cutW ws lo hi), s3, E3, [], Fs3, rfl, kk, r3', tup_cut d1', .nil⟩
  | _ => exact lists rfl
theorem Ds.rev {us : List U} {ws : List W} {F : List Nat} (h : Ds c E B us ws F) (nd : F.Nodup) : ∃ F', Ds c E B us.reverse ws.reverse F' ∧ F'.Nodup ∧ ∀ a, a ∈ F' ↔ a ∈ F := by
  induction h with
  | nil => exact ⟨[], .nil, List.nodup_nil, fun a => Iff.rfl⟩
  | @cons u w us ws F1 F2 d r ih =>
    have nd2 := List.nodup_append.mp nd
    obtain ⟨F', h1, h2, h3⟩ := ih nd2.2.1
    refine ⟨F' ++ F1, by rw [List.reverse_cons, List.reverse_cons]; exact h1.snoc d, List.nodup_append.mpr ⟨h2, nd2.1, fun a m b m2 e => nd2.2.2 b m2 a ((h3 a).mp m) e.symm⟩, fun a => by simp only [List.mem_append, h3 a]; exact Or.comm⟩
theorem sim_rev {o : VL → RU U} {mo : Lo → S → R W} (ho : SimE C md o mo) : SimE C md (eRev o) (CC.eRev C.p mo) := fun s l vl E K B Fs r => by
  refine (ho s l vl E K B Fs r).bind r.bk fun x v w s2 E2 F Fs2 k2 r2 d f => ?_
  cases q : lfU x with
  | none => trivial
  | some us =>
    dsimp only
    split
    · rename_i hb
      obtain ⟨n, ws, F', rfl, e, ds, nd, i⟩ := lfU_ok d f.1 q
      obtain ⟨F2, ds2, nd2, i2⟩ := ds.rev nd
      obtain ⟨d, nn⟩ := new_lst ds2 (by rw [List.all_reverse]; exact hb) r2.ev nd2
      have e2 : CC.cellL C.p s2 (.ref n) = some ws := e
      rw [e2]
      exact fin_ext k2 r2 f ext_al none_al d nn fun a m => (List.mem_cons.mp m).elim (fun e => .inr (by rw [e]; exact rd_nxt)) fun m => .inl (i a ((i2 a).mp m))
    · trivial
theorem rr_it {mi : VL → RU (List U)} {mi' : Lo → S → R ItD} (h : Sim C md RRg mi mi') : Sim C md RIt mi mi' := fun s l vl E K B Fs r => by
  have q := h s l vl E K B Fs r
  cases e : mi vl with
  | ok us v =>
    rw [e] at q
    obtain ⟨d, s2, E2, F, Fs2, e2, k, r2, ⟨hF, lo, st, n, hd, hu⟩, f⟩ := q
    subst hF hd hu
    exact ⟨_, s2, E2, [], Fs2, e2, k, r2, rng_rit, .nil⟩
  | exc k u v => rw [e] at q; exact q
  | bad => trivial
theorem sim_rr1 {a : VL → RU U} {ma : Lo → S → R W} (ha : SimE C md a ma) : Sim C md RRg (iRange1 a) (CC.iRange1 ma) := fun s l vl E K B Fs r => by
  refine (ha s l vl E K B Fs r).bind r.bk fun u v w s2 E2 F Fs2 k2 r2 d f => ?_
  cases u with
  | int j =>
    obtain rfl := d.is_int
    dsimp only
    split
    · exact ⟨_, s2, E2, [], Fs2, rfl, k2, r2, ⟨rfl, _, _, _, rfl, rfl⟩, .nil⟩
    · trivial
  | _ => trivial
theorem sim_rr2 {a b : VL → RU U} {ma mb : Lo → S → R W} (ha : SimE C md a ma) (hb : SimE C md b mb) : Sim C md RRg (iRange2 a b) (CC.iRange2 ma mb) := fun s l vl E K B Fs r => by
  refine Aft.two rmD rmD ha hb r fun x y v wx wy s2 E2 F1 F2 Fs2 k2 r2 d1 d2 f2 => ?_
  cases x with
  | int i =>
    cases y with
    | int j =>
      obtain rfl := d1.is_int
      obtain rfl := d2.is_int
      dsimp only
      split
      · exact ⟨_, s2, E2, [], Fs2, rfl, k2, r2, ⟨rfl, _, _, _, rfl, rfl⟩, .nil⟩
      · trivial
    | _ => trivial
  | _ => trivial
theorem sim_rr3 {a b e : VL → RU U} {ma mb me : Lo → S → R W} (ha : SimE C md a ma) (hb : SimE C md b mb) (he : SimE C md e me) : Sim C md RRg (iRange3 a b e) (CC.iRange3 ma mb me) := fun s l vl E K B Fs r => by
  refine Aft.two rmD rmD ha hb r fun x y v wx wy s2 E2 F1 F2 Fs2 k2 r2 d1 d2 f2 => ?_
  refine ((he s2 l v E2 K B Fs2 r2).then k2).bind r.bk fun z v3 wz s3 E3 F3 Fs3 k3 r3 d3 f3 => ?_
  cases x with
  | int i =>
    cases y with
    | int j =>
      cases z with
      | int q =>
        obtain rfl := d1.is_int
        obtain rfl := d2.is_int
        obtain rfl := d3.is_int
        dsimp only
        split
        · split
          · exact ⟨_, s3, E3, [], Fs3, rfl, k3, r3, ⟨rfl, _, _, _, rfl, rfl⟩, .nil⟩
          · trivial
        · split
          · exact ⟨_, s3, E3, [], Fs3, rfl, k3, r3, ⟨rfl, _, _, _, rfl, rfl⟩, .nil⟩
          · trivial
      | _ => trivial
    | _ => trivial
  | _ => trivial
theorem rngU_len {lo st : Int} : ∀ {n : Nat}, (rngU lo st n).length = n
  | 0 => rfl
  | n + 1 => by simp [rngU, rngU_len]
theorem rngU_all {lo st : Int} : ∀ {n : Nat}, (rngU lo st n).all noB = true
  | 0 => rfl
  | n + 1 => by simp [rngU, rngU_all, noB]
theorem sim_rgl {mi : VL → RU (List U)} {mi' : Lo → S → R ItD} (h : Sim C md RRg mi mi') : SimE C md (eRgL mi) (CC.eRgL C.p mi') := fun s l vl E K B Fs r => by
  refine (h s l vl E K B Fs r).bind r.bk fun us v d s2 E2 F Fs2 k2 r2 q f => ?_
  obtain ⟨_, lo, st, n, rfl, rfl⟩ := q
  dsimp only
  split
  · rename_i hl
    rw [rngU_len] at hl
    rw [if_pos hl]
    obtain ⟨d, nn⟩ := new_lst (rng_ds (B := B) (lo := lo) (c := st) (n := n)) rngU_all r2.ev List.nodup_nil
    exact fin_ext k2 r2 .nil ext_al none_al d nn fun a m => .inr (by rw [List.mem_singleton.mp m]; exact rd_nxt)
  · trivial
theorem sim_dct : SimE C md eDct (CC.eDct C.p) := fun s l vl E K B Fs r =>
  fin_ext .rfl' r .nil ext_al none_al (F := [nxt C.p s]) ⟨[], [], .z (.own rd_new (.dct rfl) .nil), fun a m => by rw [List.mem_singleton.mp m]; exact r.ev _ rd_nxt, no, no⟩ (by simp) fun a m => .inr (by rw [List.mem_singleton.mp m]; exact rd_nxt)
theorem sim_dtt : SimE C md eDtt (CC.eDtt C.p) := fun s l vl E K B Fs r =>
  fin_ext .rfl' r .nil ext_al none_al (F := [nxt C.p s]) ⟨[], [], .z (.own rd_new (.dtt rfl) .nil), fun a m => by rw [List.mem_singleton.mp m]; exact r.ev _ rd_nxt, no, no⟩ (by simp) fun a m => .inr (by rw [List.mem_singleton.mp m]; exact rd_nxt)
theorem D.to0 {u : U} {w : W} {F : List Nat} (d : D c E B u w F) (q : CV.noB u = true) : ∃ T, D0 c u w F T ∧ (∀ a ∈ F, E a) ∧ ∀ a ∈ T, ¬ E a := by
  obtain ⟨T, Z, d, h1, h2, _⟩ := d
  exact ⟨T, (d.noB q).1, h1, h2⟩
theorem sim_dis1 {a b : VL → RU U} {ma mb : Lo → S → R W} (ha : SimE C md a ma) (hb : SimE C md b mb) : SimE C md (eDis1 a b) (CC.eDis1 C.p ma mb) := fun s l vl E K B Fs r => by
  -- the dict stands first
  generalize hs0 : al s (.dct []) = s0
  have x0 : Ext (rd C.p s) (rd C.p s0) := by rw [← hs0]; exact ext_al
  have n0 : ∀ n, rd C.p s0 n = none → rd C.p s n = none := by rw [← hs0]; exact none_al
  have a0 : rd C.p s0 (nxt C.p s) = some (.dct []) := by rw [← hs0]; exact rd_new
  have en : E (nxt C.p s) := r.ev _ rd_nxt
  have f0 : Fr [nxt C.p s] K Fs := ⟨by simp, fun a m => by rw [List.mem_singleton.mp m]; exact ⟨fun h => (r.ka _ h).1 rd_nxt, fun i h => (r.ex i _ h).1 rd_nxt⟩⟩
  have r0 := (r.ext x0 n0).grow f0 fun a m => by rw [List.mem_singleton.mp m]; exact ⟨by rw [a0]; simp, en⟩
  have e0 : CC.eDis1 C.p ma mb l s = (ma l s0).bind fun kw s1 => (mb l s1).bind fun w s2 => CC.fillD C.p (nxt C.p s) kw w s2 := by unfold CC.eDis1; rw [hs0]
  rw [e0]
  have k0 : Keep (rd C.p s) E K (rd C.p s0) E := x0.keep r.ka
  refine (ha s0 l vl E _ B Fs r0).bindK k0 (fun n h => .inl h) r.bk fun x v1 wx s1 E1 F1 Fs1 k1 r1 d1 f1 => ?_
  have k01 := k0.trans (k1.weak fun n h => .inl h)
  refine (hb s1 l v1 E1 _ B Fs1 (r1.grow f1 (rmD.al d1))).bindK k01 (fun n h => .inl (.inl h)) r.bk fun y v2 wy s2 E2 F2 Fs2 k2 r2 d2 f2 => ?_
  have k02 := k01.trans (k2.weak fun n h => .inl (.inl h))
  cases q : keyU x with
  | none => trivial
  | some k =>
    dsimp only
    split
    · rename_i hb2
      have mem0 : kU K [nxt C.p s] (nxt C.p s) := .inr (by simp)
      have a2 : rd C.p s2 (nxt C.p s) = some (.dct []) := by rw [(k2.kp _ (.inl mem0)).1, (k1.kp _ mem0).1, a0]
      have e2 : E2 (nxt C.p s) := (k2.kp _ (.inl mem0)).2 ((k1.kp _ mem0).2 en)
      have r2' := r2.weak (K := K) (fun n h => .inl (.inl h)) r.bk
      have nk := (f0.2 (nxt C.p s) (by simp)).1
      have nfs : ∀ i, nxt C.p s ∉ Fs2 i := fun i => (r2.weak (K := kU K [nxt C.p s]) (fun n h => .inl h) (fun n h => .inl (r.bk n h))).sep r.bk (by simp) nk i
      have nf2 : nxt C.p s ∉ F2 := fun m => (f2.2 _ m).1 (.inl mem0)
      have na : rd C.p s2 (nxt C.p s) ≠ none := by rw [a2]; simp
      have ne := wr_ne (p := C.p) (s := s2) (n := nxt C.p s) (o := .dct [(k, wy)]) na
      have at3 := wr_at (p := C.p) (s := s2) (n := nxt C.p s) (o := .dct [(k, wy)]) na
      obtain ⟨T, d0, t1, t2⟩ := (d2.upd ne e2 (fun b => nk (r.bk _ b)) nf2).to0 hb2
      have e3 : CC.fillD C.p (nxt C.p s) wx wy s2 = .ok (.ref (nxt C.p s)) (wr C.p s2 (nxt C.p s) (.dct [(k, wy)])) := by
        unfold CC.fillD
        rw [a2, key_ok d1 q]
      rw [e3]
      refine ⟨_, _, E2, nxt C.p s :: F2, Fs2, rfl, k02.trans (Keep.upd ne (by rw [at3]; simp) e2 nk), r2'.upd ne (by rw [at3]; simp) e2 nk nfs, ⟨T, [], .z ?_, fun a m => ?_, t2, no⟩, List.nodup_cons.mpr ⟨nf2, f2.1⟩, fun a m => ?_⟩
      · have := D0.own at3 (.dct (kvs := [(k, y)]) (kws := [(k, wy)]) rfl) (.cons d0 .nil)
        simp only [List.append_nil] at this
        exact this
      · rcases List.mem_cons.mp m with rfl | m
        · exact e2
        · exact t1 a m
      · rcases List.mem_cons.mp m with rfl | m
        · exact ⟨nk, nfs⟩
        · exact ⟨fun h => (f2.2 a m).1 (.inl (.inl h)), (f2.2 a m).2⟩
    · trivial
theorem isDic_ok {p : Hh} {s : S} {u : U} {w : W} {F : List Nat} (d : D (rd p s) E B u w F) (h : isDicU u = true) : CC.isDic p s w = true := by
  cases u with
  | dct z kvs => obtain ⟨n, _, _, _, rfl, e, _⟩ := d.dct; unfold CC.isDic; dsimp only; rw [e]
  | dtt z kvs => obtain ⟨n, _, _, _, rfl, e, _⟩ := d.dtt; unfold CC.isDic; dsimp only; rw [e]
  | _ => cases h
theorem sim_get1 {a b : VL → RU U} {ma mb : Lo → S → R W} (ha : SimE C md a ma) (hb : SimE C md b mb) : SimE C md (eGet1 a b) (CC.eGet1 C.p ma mb) := fun s l vl E K B Fs r => by
  refine (ha s l vl E K B Fs r).bind r.bk fun o v1 wo s1 E1 F1 Fs1 k1 r1 d1 f1 => ?_
  split
  · rename_i hd
    rw [if_pos (isDic_ok d1 hd)]
    refine (hb s1 l v1 E1 (kU K F1) B Fs1 (r1.grow f1 (rmD.al d1))).bindK k1 (fun n h => .inl h) r.bk fun i v2 wi s2 E2 F2 Fs2 k2 r2 d2 f2 => ?_
    have d1' := d1.mono k2 r2.bk fun a m => .inr m
    have kk := k1.trans (k2.weak fun n h => .inl h)
    have r2' := r2.weak (K := K) (fun n h => .inl h) r.bk
    have fr1 : ∀ a ∈ F1, ¬ K a ∧ ∀ i, a ∉ Fs2 i := fun a m => ⟨(f1.2 a m).1, fun i => r2.sep r.bk m (f1.2 a m).1 i⟩
    cases q : gDic o i with
    | none => trivial
    | some x =>
      obtain ⟨x', h1, h2, h3⟩ := dic_ok d1' d2 f1.1 q
      rw [h1]
      cases x with
      | none =>
        rw [h2 rfl]
        exact ⟨_, s2, E2, [], Fs2, rfl, kk, r2', d_non, .nil⟩
      | some u =>
        obtain ⟨w, F, rfl, d, i', n⟩ := h3 u rfl
        exact ⟨_, s2, E2, F, Fs2, rfl, kk, r2', d, n, fun a m => fr1 a (i' a m)⟩
  · trivial
theorem sim_get2 {a b e : VL → RU U} {ma mb me : Lo → S → R W} (ha : SimE C md a ma) (hb : SimE C md b mb) (he : SimE C md e me) : SimE C md (eGet2 a b e) (CC.eGet2 C.p ma mb me) := fun s l vl E K B Fs r => by
  refine (ha s l vl E K B Fs r).bind r.bk fun o v1 wo s1 E1 F1 Fs1 k1 r1 d1 f1 => ?_
  split
  · rename_i hd
    rw [if_pos (isDic_ok d1 hd)]
    refine (hb s1 l v1 E1 (kU K F1) B Fs1 (r1.grow f1 (rmD.al d1))).bindK k1 (fun n h => .inl h) r.bk fun i v2 wi s2 E2 F2 Fs2 k2 r2 d2 f2 => ?_
    have kk := k1.trans (k2.weak fun n h => .inl h)
    refine (he s2 l v2 E2 (kU (kU K F1) F2) B Fs2 (r2.grow f2 (rmD.al d2))).bindK kk (fun n h => .inl (.inl h)) r.bk fun x v3 wx s3 E3 F3 Fs3 k3 r3 d3 f3 => ?_
    have d1' := (d1.mono k2 r2.bk fun a m => .inr m).mono k3 (fun n h => .inl (.inl (r.bk n h))) fun a m => .inl (.inr m)
    have d2' := d2.mono k3 (fun n h => .inl (.inl (r.bk n h))) fun a m => .inr m
    have kkk := kk.trans (k3.weak fun n h => .inl (.inl h))
    have r3a := r3.weak (K := kU K F1) (fun n h => .inl h) (fun n h => .inl (r.bk n h))
    have r3' := r3a.weak (K := K) (fun n h => .inl h) r.bk
    have fr1 : ∀ a ∈ F1, ¬ K a ∧ ∀ i, a ∉ Fs3 i := fun a m => ⟨(f1.2 a m).1, fun i => r3a.sep r.bk m (f1.2 a m).1 i⟩
    cases q : gDic o i with
    | none => trivial
    | some y =>
      obtain ⟨x', h1, h2, h3⟩ := dic_ok d1' d2' f1.1 q
      rw [h1]
      cases y with
      | none =>
        rw [h2 rfl]
        exact ⟨_, s3, E3, F3, Fs3, rfl, kkk, r3', d3, f3.1, fun a m => ⟨fun h => (f3.2 a m).1 (.inl (.inl h)), (f3.2 a m).2⟩⟩
      | some u =>
        obtain ⟨w, F, rfl, d, i', n⟩ := h3 u rfl
        exact ⟨_, s3, E3, F, Fs3, rfl, kkk, r3', d, n, fun a m => fr1 a (i' a m)⟩
  · trivial
theorem fields_ok {i : Nat} : ∀ {fs : List (Nat × U)} {gs : List (Nat × W)} {F T : List Nat} {u : U}, fs.map (·.1) = gs.map (·.1) → D0s c (fs.map (·.2)) (gs.map (·.2)) F T → lookFU i fs = some u → ∃ w F' T', CC.lookF i gs = some w ∧ D0 c u w F' T' ∧ (∀ a ∈ F', a ∈ F) ∧ (∀ a ∈ T', a ∈ T) ∧ (F.Nodup → F'.Nodup)
  | [], gs, F, T, u, h, d, e => by cases e
  | _ :: _, [], F, T, u, h, d, e => by cases h
  | (j, u') :: fs, (j', w) :: gs, F, T, u, h, d, e => by
    simp only [List.map_cons, List.cons.injEq] at h
    obtain ⟨rfl, h⟩ := h
    cases d with
    | @cons _ _ _ _ Fa Ta Fb Tb d r =>
      unfold lookFU at e
      unfold CC.lookF
      by_cases q : i = j
      · rw [if_pos q] at e
        rw [if_pos q]
        cases e
        exact ⟨w, Fa, Ta, rfl, d, fun a m => List.mem_append_left _ m, fun a m => List.mem_append_left _ m, fun nd => (List.nodup_append.mp nd).1⟩
      · rw [if_neg q] at e
        rw [if_neg q]
        obtain ⟨w', F', T', h1, h2, h3, h4, h5⟩ := fields_ok h r e
        exact ⟨w', F', T', h1, h2, fun a m => List.mem_append_right _ (h3 a m), fun a m => List.mem_append_right _ (h4 a m), fun nd => h5 (List.nodup_append.mp nd).2.1⟩
theorem sim_fld {k i : Nat} {a : VL → RU U} {ma : Lo → S → R W} (ha : SimE C md a ma) : SimE C md (eFld k i a) (CC.eFld k i C.p ma) := fun s l vl E K B Fs r => by
  refine (ha s l vl E K B Fs r).bind r.bk fun o v wo s2 E2 F Fs2 k2 r2 d f => ?_
  cases o with
  | ins z k' fs =>
    obtain ⟨n, gs, F0, T0, rfl, e, hk, ds, g⟩ := d.ins
    dsimp only
    rw [e]
    dsimp only
    split
    · cases q : lookFU i fs with
      | none => trivial
      | some u =>
        obtain ⟨w, F', T', h1, h2, h3, h4, h5⟩ := fields_ok hk ds q
        obtain ⟨F2, d2, i2, n2⟩ := item_ok' h2 g f.1 h3 h4 h5
        rw [h1]
        exact ⟨w, s2, E2, F2, Fs2, rfl, k2, r2, d2, n2, fun a m => f.2 a (i2 a m)⟩
    · trivial
  | _ => trivial
theorem ty_ok {p : Hh} {s : S} {u : U} {w : W} {F : List Nat} (d : D (rd p s) E B u w F) : CC.tyW p s w = some (tyU u) := by
  rcases d.node with rfl | ⟨_, rfl⟩ | ⟨_, rfl⟩ | ⟨_, rfl⟩ | ⟨us, rfl⟩ | ⟨z', us', n, ob, ws, F0, T0, rfl, e, k, r, f⟩
  · obtain rfl := d.is_non; rfl
  · obtain rfl := d.is_bl; rfl
  · obtain rfl := d.is_int; rfl
  · obtain rfl := d.is_str; rfl
  · obtain ⟨_, ws, rfl, _⟩ := d.is_tup; rfl
  · unfold CC.tyW
    dsimp only
    rw [e]
    cases k <;> rfl
theorem sim_isi {q : TK → Option Bool} {a : VL → RU U} {ma : Lo → S → R W} (ha : SimE C md a ma) : SimE C md (eIsi q a) (CC.eIsi C.p q ma) := fun s l vl E K B Fs r => by
  refine (ha s l vl E K B Fs r).bind r.bk fun u v w s2 E2 F Fs2 k2 r2 d f => ?_
  rw [ty_ok d]
  dsimp only
  cases e : q (tyU u) with
  | none => trivial
  | some b => exact ⟨_, s2, E2, [], Fs2, rfl, k2, r2, d_bl, .nil⟩
/-- a reading method -/
def MtR (f : Hh → W → List W → S → CC.O2) (g : U → List U → Option U) : Prop :=
  ∀ {p : Hh} {s : S} {E B : Pr} {o u : U} {xs : List U} {wo : W} {ws : List W} {Fo Fx : List Nat}, D (rd p s) E B o wo Fo → Ds (rd p s) E B xs ws Fx → g o xs = some u → ∃ w, isSc u = some w ∧ f p wo ws s = some (w, s)
theorem sim_bm {f : Hh → W → List W → S → CC.O2} {g : U → List U → Option U} {o : VL → RU U} {mo : Lo → S → R W} {a : VL → RU (List U)} {ma : Lo → S → R (List W)} (h : MtR f g) (ho : SimE C md o mo) (ha : SimA C md a ma) : SimE C md (eBm g o a) (CC.eBm CC.isLst f C.p mo ma) := fun s l vl E K B Fs r => by
  refine (ho s l vl E K B Fs r).bind r.bk fun x v1 wx s1 E1 F1 Fs1 k1 r1 d1 f1 => ?_
  cases q : rawL x with
  | none => trivial
  | some us =>
    obtain ⟨ws, _, _, hc, _⟩ := rawL_ok d1 q
    have : CC.isLst C.p s1 wx = true := by unfold CC.isLst; rw [hc]
    dsimp only
    rw [if_pos this]
    refine (ha s1 l v1 E1 (kU K F1) B Fs1 (r1.grow f1 (rmD.al d1))).bindK k1 (fun n h => .inl h) r.bk fun xs v2 ws2 s2 E2 F2 Fs2 k2 r2 d2 f2 => ?_
    have d1' := d1.mono k2 r2.bk fun a m => .inr m
    cases e : g x xs with
    | none => trivial
    | some u =>
      obtain ⟨w, h1, h2⟩ := h d1' d2 e
      rw [h2]
      exact ⟨w, s2, E2, [], Fs2, rfl, k1.trans (k2.weak fun n h => .inl h), r2.weak (fun n h => .inl h) r.bk, sc_d h1, .nil⟩
theorem cellNs_ok {p : Hh} {s : S} {o : U} {wo : W} {Fo : List Nat} {us : List U} {ns : List Int} (d : D (rd p s) E B o wo Fo) (h : rawL o = some us) (h2 : isIntsU us = some ns) : CC.cellNs p s wo = some ns := by
  obtain ⟨ws, _, _, hc, ds⟩ := rawL_ok d h
  unfold CC.cellNs
  rw [hc]
  exact ints0_ok ds h2
theorem x_fIndex : MtR CC.fIndex fIndex := fun {p s E B o u xs wo ws Fo Fx} dO dx e => by
  unfold fIndex at e
  split at e
  · obtain ⟨w, rfl, d⟩ := dx.one
    obtain rfl := d.is_int
    cases q : rawL o with
    | none => rw [q] at e; cases e
    | some us =>
      rw [q] at e
      dsimp only at e
      cases q2 : isIntsU us with
      | none => rw [q2] at e; cases e
      | some ns =>
        rw [q2] at e
        dsimp only at e
        unfold CC.fIndex
        dsimp only
        rw [cellNs_ok dO q q2]
        dsimp only
        split at e
        · rename_i j hj
          cases e
          try rw [hj]
          exact ⟨_, rfl, rfl⟩
        · cases e
  · cases e
theorem x_fCount : MtR CC.fCount fCount := fun {p s E B o u xs wo ws Fo Fx} dO dx e => by
  unfold fCount at e
  split at e
  · obtain ⟨w, rfl, d⟩ := dx.one
    obtain rfl := d.is_int
    cases q : rawL o with
    | none => rw [q] at e; cases e
    | some us =>
      rw [q] at e
      dsimp only at e
      cases q2 : isIntsU us with
      | none => rw [q2] at e; cases e
      | some ns =>
        rw [q2] at e
        cases e
        exact ⟨_, rfl, by unfold CC.fCount; dsimp only; rw [cellNs_ok dO q q2]⟩
  · cases e
/-- a chain: the middle value is used twice, so it may not be one's own -/
theorem sim_chain {f f' : Hh → W → W → S → CC.O2} {g g' : U → U → Option U} {a b e : VL → RU U} {ma mb me : Lo → S → R W} (hf : Op2 f g) (hf' : Op2 f' g') (ha : SimE C md a ma) (hb : SimE C md b mb) (he : SimE C md e me) : SimE C md (eChain g g' a b e) (CC.eChain f f' C.p ma mb me) := fun s l vl E K B Fs r => by
  refine Aft.two (rel3 := D) rmD rmD ha hb r fun x y v wx wy s2 E2 F1 F2 Fs2 k2 r2 d1 d2 f2 => ?_
  have nd := List.nodup_append.mp f2.1
  cases q : g x y with
  | none => trivial
  | some u =>
    obtain ⟨w, s3, F, h1, x3, al, d, _, sub⟩ := hf d1 d2 r2.ev f2.1 q
    rw [h1]
    have k3 := k2.trans (x3.keep r2.ka)
    have r3 := r2.ext x3 al
    have d2' := d2.ext x3
    have fy : Fr F2 K Fs2 := ⟨nd.2.1, fun a m => f2.2 a (List.mem_append_right _ m)⟩
    cases u with
    | bl t =>
      obtain rfl := d.is_bl
      cases t with
      | false => exact ⟨_, s3, E2, [], Fs2, rfl, k3, r3, d_bl, .nil⟩
      | true =>
        show Aft C md _ E K B l D ((e v).bind fun u v3 => ofO (g' y u) v3) ((me l s3).bind fun u s4 => CC.R.ofO (f' C.p wy u s4))
        refine (he s3 l v E2 (kU K F2) B Fs2 (r3.grow fy (rmD.al d2'))).bindK k3 (fun n h => .inl h) r.bk fun z v4 wz s4 E4 F4 Fs4 k4 r4 d4 f4 => ?_
        have d2'' := d2'.mono k4 r4.bk fun a m => .inr m
        have r4' := r4.weak (K := K) (fun n h => .inl h) r.bk
        cases q2 : g' y z with
        | none => trivial
        | some u2 =>
          obtain ⟨w5, s5, F5, h5, x5, al5, d5, nd5, sub5⟩ := hf' d2'' d4 r4'.ev (List.nodup_append.mpr ⟨fy.1, f4.1, fun a h b h2 e => (f4.2 b h2).1 (.inr (e ▸ h))⟩) q2
          rw [h5]
          refine fin_ext (k3.trans (k4.weak fun n h => .inl h)) r4' (F1 := F2 ++ F4) ⟨List.nodup_append.mpr ⟨fy.1, f4.1, fun a h b h2 e => (f4.2 b h2).1 (.inr (e ▸ h))⟩, fun a m => ?_⟩ x5 al5 d5 nd5 sub5
          rcases List.mem_append.mp m with m | m
          · exact ⟨(fy.2 a m).1, fun i => r4.sep r.bk m (fy.2 a m).1 i⟩
          · exact ⟨fun h => (f4.2 a m).1 (.inl h), (f4.2 a m).2⟩
    | _ => trivial
end
end CV
set_option Elab.async false
set_option linter.all false
set_option maxRecDepth 100000
/-! CV11: what writes -/
namespace CV
open PySem PySem.Spec PyProof.Rows L2
open CC (W Ob S Hh Lo R RS rd wr al nxt ItD i64 mapO TK)

/-- a node of one's own, apart -/
structure Own (c : Cf) (E : Pr) (o : U) (n : Nat) (ob : Ob) (us : List U) (ws : List W) (F T : List Nat) : Prop where
  at_ : c n = some ob
  sh : Sh .o o us ob ws
  ds : D0s c us ws F T
  nd : (n :: F).Nodup
  own : ∀ a ∈ n :: F, E a
  shr : ∀ a ∈ T, ¬ E a
def isOwn : U → Bool
  | .lst .o _ => true
  | .dct .o _ => true
  | .dtt .o _ => true
  | .ins .o _ _ => true
  | _ => false
section
variable {C : Ct} {md : Bool} {c c1 : Cf} {E E1 K K1 B : Pr} {l : Lo} {vl : VL} {s : S} {Fs : Nat → List Nat} {o o' u : U} {w : W} {F : List Nat} {n : Nat} {ob ob' : Ob} {us us' : List U} {ws ws' : List W} {F' T T' : List Nat}
theorem D.toOwn (d : D c E B o w F) (nd : F.Nodup) (h : isOwn o = true) : ∃ n ob us ws F0 T0, w = .ref n ∧ F = n :: F0 ∧ Own c E o n ob us ws F0 T0 := by
  rcases d.node with rfl | ⟨_, rfl⟩ | ⟨_, rfl⟩ | ⟨_, rfl⟩ | ⟨us, rfl⟩ | ⟨z, us', n, ob, ws, F0, T0, rfl, e, k, r, f⟩
  · cases h
  · cases h
  · cases h
  · cases h
  · cases h
  · have hz : z = .o := by
      cases k with
      | lst => cases z <;> first | rfl | cases h
      | frz => cases h
      | dct _ => cases z <;> first | rfl | cases h
      | dtt _ => cases z <;> first | rfl | cases h
      | ins _ => cases z <;> first | rfl | cases h
    subst hz
    obtain ⟨rfl, f1, f2⟩ := f
    exact ⟨n, ob, us', ws, F0, T0, rfl, rfl, e, k, r, nd, f1, f2⟩
/-- the slot's node is written -/
theorem SL.write {i : Nat} (r : SL C true (rd C.p s) E K B vl l Fs) (hi : l[i]? = some (some (.ref n))) (hf : Fs i = n :: F) (ow : Own (rd C.p s) E o n ob us ws F T) (sh : Sh .o o' us' ob' ws') (ds : D0s (rd C.p s) us' ws' F' T') (ht : ∀ a ∈ T', ¬ E a) (nd : F'.Nodup)
    (hF : ∀ a ∈ F', a ∈ F ∨ (E a ∧ ¬ K a ∧ ∀ j, a ∉ Fs j)) : Keep (rd C.p s) E K (rd C.p (wr C.p s n ob')) E ∧ SL C true (rd C.p (wr C.p s n ob')) E K B (vl.set i (some o')) l (upF Fs i (n :: F')) := by
  have oi := (r.own rfl).1 i
  have nk : ¬ K n := oi.2 n (by rw [hf]; exact List.mem_cons_self ..)
  have en : E n := ow.own n (List.mem_cons_self ..)
  have na : rd C.p s n ≠ none := by rw [ow.at_]; simp
  have ne := wr_ne (p := C.p) (s := s) (n := n) (o := ob') na
  have at_ := wr_at (p := C.p) (s := s) (n := n) (o := ob') na
  have nf : n ∉ F' := fun m => (hF n m).elim (fun m => (List.nodup_cons.mp ow.nd).1 m) fun h => h.2.2 i (by rw [hf]; exact List.mem_cons_self ..)
  -- without the slot
  have r0 := r.put i none (.ref n) l rfl (fun _ _ => rfl) (fun u z => (nomatch z)) r.mpk List.nodup_nil no
  have n0 : ∀ j, n ∉ upF Fs i [] j := fun j h => by
    by_cases e : j = i
    · rw [e, upF_same] at h; cases h
    · rw [upF_ne e] at h
      exact e ((r.own rfl).2 j i n h (by rw [hf]; exact List.mem_cons_self ..))
  have r1 := r0.upd ne (by rw [at_]; simp) en nk n0
  have d1 : D0s (rd C.p (wr C.p s n ob')) us' ws' F' T' := ds.mono fun a m => ne a fun e => by
    subst e
    exact m.elim nf fun m => ht _ m en
  have r2 := r1.put i (some o') (.ref n) l rfl (fun _ _ => rfl) (fun u z _ => by
    cases z
    exact ⟨hi, T', [], .z (.own at_ sh d1), fun a m => (List.mem_cons.mp m).elim (fun e => by rw [e]; exact en) fun m => (hF a m).elim (fun m => ow.own a (List.mem_cons_of_mem _ m)) fun h => h.1, ht, no⟩) r.mpk (List.nodup_cons.mpr ⟨nf, nd⟩) (fun a m => by
    have al : ∀ a, rd C.p s a ≠ none → rd C.p (wr C.p s n ob') a ≠ none := fun a h => by
      by_cases e : a = n
      · rw [e, at_]; simp
      · rw [ne a e]; exact h
    have alive := ds.alive
    rcases List.mem_cons.mp m with rfl | m
    · exact ⟨by rw [at_]; simp, en, fun _ => ⟨nk, fun j e h => n0 j h⟩, fun z => (nomatch z)⟩
    · refine ⟨al a (alive a (.inl m)), (hF a m).elim (fun m => ow.own a (List.mem_cons_of_mem _ m)) (fun h => h.1), fun _ => ?_, fun z => (nomatch z)⟩
      rcases hF a m with m2 | h
      · have ma : a ∈ Fs i := by rw [hf]; exact List.mem_cons_of_mem _ m2
        exact ⟨oi.2 a ma, fun j e h => by rw [upF_ne e] at h; exact e ((r.own rfl).2 j i a h ma)⟩
      · exact ⟨h.2.1, fun j e h2 => by rw [upF_ne e] at h2; exact h.2.2 j h2⟩)
  rw [List.set_set] at r2
  have eF : upF (upF Fs i []) i (n :: F') = upF Fs i (n :: F') := funext fun j => by
    by_cases e : j = i
    · rw [e, upF_same, upF_same]
    · rw [upF_ne e, upF_ne e, upF_ne e]
  rw [eF] at r2
  exact ⟨Keep.upd ne (by rw [at_]; simp) en nk, r2⟩
end
/-! methods that write -/
def MtW (f : Hh → W → List W → S → CC.O2) (g : U → List U → Option (U × U)) : Prop :=
  ∀ {p : Hh} {s : S} {E B : Pr} {o o' r : U} {n : Nat} {ob : Ob} {us : List U} {ws : List W} {F T : List Nat} {xs : List U} {wx : List W} {Fx : List Nat}, Own (rd p s) E o n ob us ws F T → Ds (rd p s) E B xs wx Fx → (n :: F ++ Fx).Nodup → g o xs = some (r, o') →
    ∃ w ob' us' ws' F' T' Fr, f p (.ref n) wx s = some (w, wr p s n ob') ∧ Sh .o o' us' ob' ws' ∧ D0s (rd p s) us' ws' F' T' ∧ (∀ a ∈ T', ¬ E a) ∧ (∀ a ∈ F', a ∈ F ∨ a ∈ Fx) ∧ D (rd p s) E nB r w Fr ∧ (∀ a ∈ Fr, a ∈ F ∨ a ∈ Fx) ∧ (F' ++ Fr).Nodup
def eMut (i : Nat) (g : U → List U → Option (U × U)) (mr : VL → RU (List U)) : VL → RU U := fun v => match v[i]? with
  | some (some (.lst .o _)) => (mr v).bind fun us v1 => (match v1[i]? with
    | some (some o) => if isOwn o then (match g o us with
      | some (r, o') => .ok r (v1.set i (some o'))
      | none => .bad) else .bad
    | _ => .bad)
  | _ => .bad
def mAppend (o : U) (xs : List U) : Option (U × U) := match o, xs with
  | .lst .o us, [u] => if us.length < 1000000 ∧ noB u = true then some (.non, .lst .o (us ++ [u])) else none
  | _, _ => none
def mExtend (o : U) (xs : List U) : Option (U × U) := match o, xs with
  | .lst .o us, [u] => (match lsU u with
    | some us2 => if us.length + us2.length ≤ 1000000 ∧ us2.all noB = true then some (.non, .lst .o (us ++ us2)) else none
    | none => none)
  | _, _ => none
def mPop (o : U) (xs : List U) : Option (U × U) := match o, xs with
  | .lst .o us, [] => (match us[us.length - 1]? with | some u => some (u, .lst .o us.dropLast) | none => none)
  | _, _ => none
def mPopAt (o : U) (xs : List U) : Option (U × U) := match o, xs with
  | .lst .o us, [.int i] => (match ixN us.length i with | some k => if CC.b62 i then (match us[k]? with | some u => some (u, .lst .o (us.eraseIdx k)) | none => none) else none | none => none)
  | _, _ => none
def mClear (o : U) (xs : List U) : Option (U × U) := match o, xs with
  | .lst .o _, [] => some (.non, .lst .o [])
  | _, _ => none
def mReverse (o : U) (xs : List U) : Option (U × U) := match o, xs with
  | .lst .o us, [] => some (.non, .lst .o us.reverse)
  | _, _ => none
section
variable {C : Ct} {md : Bool} {c c1 : Cf} {E E1 K K1 B : Pr} {l : Lo} {vl : VL} {s : S} {Fs : Nat → List Nat} {o o' u : U} {w : W} {F : List Nat} {n : Nat} {ob ob' : Ob} {us us' : List U} {ws ws' : List W} {F' T T' : List Nat}
theorem sim_mut {i : Nat} {f : Hh → W → List W → S → CC.O2} {g : U → List U → Option (U × U)} {a : VL → RU (List U)} {ma : Lo → S → R (List W)} (h : MtW f g) (ha : SimA C true a ma) : SimE C true (eMut i g a) (CC.eBm CC.isLst f C.p (CC.eVar i) ma) := fun s l vl E K B Fs r => by
  unfold eMut
  split
  · rename_i us0 ho0
    obtain ⟨w0, hw, d0⟩ := r.has i _ ho0
    obtain ⟨n0, ws0, _, _, rfl, e0, _⟩ := d0.lst
    have e1 : CC.eBm CC.isLst f C.p (CC.eVar i) ma l s = (ma l s).bind fun xs s2 => CC.R.ofO (f C.p (.ref n0) xs s2) := by
      unfold CC.eBm
      rw [var_ok hw]
      show (if CC.isLst C.p s (.ref n0) = true then _ else _) = _
      rw [if_pos]
      unfold CC.isLst CC.cellL CC.cellItems
      dsimp only
      rw [e0]
    rw [e1]
    refine (ha s l vl E K B Fs r).bind r.bk fun xs v wx s2 E2 F1 Fs2 k2 r2 d2 f2 => ?_
    split
    · rename_i o ho
      split
      · rename_i hown
        cases q : g o xs with
        | none => trivial
        | some ro =>
          obtain ⟨rv, o'⟩ := ro
          obtain ⟨w1, hw1, d1⟩ := r2.has i o ho
          rw [hw] at hw1
          cases hw1
          have oi := (r2.own rfl).1 i
          obtain ⟨n, ob, us, ws, F0, T0, ew, eF, ow⟩ := d1.toOwn oi.1 hown
          cases ew
          obtain ⟨w, ob', us', ws', F', T', Fr', h1, h2, h3, h4, h5, h6, h7, h8⟩ := h ow d2 (by
            rw [← eF]
            exact List.nodup_append.mpr ⟨oi.1, f2.1, fun a h b h2 e => (f2.2 b h2).2 i (e ▸ h)⟩) q
          rw [h1]
          have nd8 := List.nodup_append.mp h8
          obtain ⟨k3, r3⟩ := r2.write hw eF ow h2 h3 h4 nd8.1 fun a m => (h5 a m).imp id fun m => ⟨d2.own a m, f2.2 a m⟩
          have mi : ∀ a, a ∈ F0 → a ∈ Fs2 i := fun a m => by rw [eF]; exact List.mem_cons_of_mem _ m
          have nn : n0 ∉ Fr' := fun m => (h7 _ m).elim (List.nodup_cons.mp ow.nd).1 fun m => (f2.2 _ m).2 i (by rw [eF]; exact List.mem_cons_self ..)
          refine ⟨w, _, E2, Fr', _, rfl, k2.trans k3, r3, (h6.upd (wr_ne (by rw [ow.at_]; simp)) (ow.own _ (List.mem_cons_self ..)) id nn).in (fun _ h => h.elim), nd8.2.1, fun a m => ⟨?_, fun j hj => ?_⟩⟩
          · exact (h7 a m).elim (fun m => oi.2 a (mi a m)) fun m => (f2.2 a m).1
          · by_cases e : j = i
            · rw [e, upF_same] at hj
              rcases List.mem_cons.mp hj with rfl | hj
              · exact nn m
              · exact nd8.2.2 a hj a m rfl
            · rw [upF_ne e] at hj
              exact (h7 a m).elim (fun m => e ((r2.own rfl).2 j i a hj (mi a m))) fun m => (f2.2 a m).2 j hj
      · trivial
    · trivial
  · trivial
theorem D0s.app {a b : List U} {v1 v2 : List W} {F1 F2 T1 T2 : List Nat} (h1 : D0s c a v1 F1 T1) (h2 : D0s c b v2 F2 T2) : D0s c (a ++ b) (v1 ++ v2) (F1 ++ F2) (T1 ++ T2) := by
  induction a generalizing v1 F1 T1 with
  | nil => cases h1; exact h2
  | cons x a ih =>
    cases h1 with
    | cons d r => rw [List.append_assoc, List.append_assoc]; exact .cons d (ih r)
theorem D0s.one {x : U} {w : W} {F T : List Nat} (d : D0 c x w F T) : D0s c [x] [w] F T := by
  have := D0s.cons d .nil
  simp only [List.append_nil] at this
  exact this
theorem D0s.dropLast {xs : List U} {vs : List W} {F T : List Nat} (h : D0s c xs vs F T) : ∀ {u : U}, xs[xs.length - 1]? = some u → ∃ w F1 T1 F2 T2, vs[vs.length - 1]? = some w ∧ D0s c xs.dropLast vs.dropLast F1 T1 ∧ D0 c u w F2 T2 ∧ F = F1 ++ F2 ∧ T = T1 ++ T2 := by
  induction xs generalizing vs F T with
  | nil => intro u e; simp at e
  | cons x xs ih =>
    intro u e
    cases h with
    | @cons _ w _ vs Fa Ta Fb Tb d r =>
      cases xs with
      | nil =>
        cases r
        simp at e
        subst e
        exact ⟨w, [], [], Fa, Ta, rfl, .nil, d, by simp, by simp⟩
      | cons y xs =>
        cases vs with
        | nil => cases r
        | cons v vs =>
          obtain ⟨w', F1, T1, F2, T2, h1, h2, h3, rfl, rfl⟩ := ih r (u := u) (by simpa using e)
          refine ⟨w', Fa ++ F1, Ta ++ T1, F2, T2, by simpa using h1, ?_, h3, by simp, by simp⟩
          exact .cons d h2
theorem sh_lst {z : Fl} (k : Sh z (.lst z us') us ob ws) : us = us' ∧ ob = .lst ws := by
  cases k; exact ⟨rfl, rfl⟩
theorem D.nb (d : D0 c u w F T) (h1 : ∀ a ∈ F, E a) (h2 : ∀ a ∈ T, ¬ E a) : D c E nB u w F := ⟨T, [], .z d, h1, h2, no⟩
theorem x_mAppend : MtW CC.fAppend mAppend := fun {p s E B o o' r n ob us ws F T xs wx Fx} ow dx nd e => by
  unfold mAppend at e
  split at e
  · rename_i us0 u
    split at e
    · rename_i h
      cases e
      obtain ⟨rfl, rfl⟩ := sh_lst ow.sh
      obtain ⟨w, rfl, d⟩ := dx.one
      obtain ⟨T1, d0, t1, t2⟩ := d.to0 h.2
      have hn := (List.nodup_append.mp nd)
      refine ⟨.non, .lst (ws ++ [w]), _, ws ++ [w], _, _, [], by unfold CC.fAppend; dsimp only; rw [ow.at_]; dsimp only; rw [if_pos (by rw [← ow.ds.len]; exact h.1)], .lst, ow.ds.app (.one d0), fun a m => (List.mem_append.mp m).elim (ow.shr a) (t2 a), fun a m => List.mem_append.mp m, d_non, no, ?_⟩
      rw [List.append_nil]
      exact List.nodup_append.mpr ⟨(List.nodup_cons.mp hn.1).2, hn.2.1, fun a h b h2 => hn.2.2 a (List.mem_cons_of_mem _ h) b h2⟩
    · cases e
  · cases e
theorem x_mExtend : MtW CC.fExtend mExtend := fun {p s E B o o' r n ob us ws F T xs wx Fx} ow dx nd e => by
  unfold mExtend at e
  split at e
  · rename_i us0 u
    cases q : lsU u with
    | none => rw [q] at e; cases e
    | some us2 =>
      rw [q] at e
      dsimp only at e
      split at e
      · rename_i h
        cases e
        obtain ⟨rfl, rfl⟩ := sh_lst ow.sh
        obtain ⟨w, rfl, d⟩ := dx.one
        have hn := (List.nodup_append.mp nd)
        obtain ⟨m, ws2, F2, rfl, e2, d2, n2, i2⟩ := lsU_ok d hn.2.1 q
        obtain ⟨T1, d0, t1, t2⟩ := d2.to0 h.2
        refine ⟨.non, .lst (ws ++ ws2), _, ws ++ ws2, _, _, [], by unfold CC.fExtend; dsimp only; rw [ow.at_, e2]; dsimp only; rw [if_pos (by rw [← ow.ds.len, ← d2.len]; exact h.1)], .lst, ow.ds.app d0, fun a m => (List.mem_append.mp m).elim (ow.shr a) (t2 a), fun a m => (List.mem_append.mp m).imp id (i2 a), d_non, no, ?_⟩
        rw [List.append_nil]
        exact List.nodup_append.mpr ⟨(List.nodup_cons.mp hn.1).2, n2, fun a h b h2 => hn.2.2 a (List.mem_cons_of_mem _ h) b (i2 b h2)⟩
      · cases e
  · cases e
theorem x_mPop : MtW CC.fPop mPop := fun {p s E B o o' r n ob us ws F T xs wx Fx} ow dx nd e => by
  unfold mPop at e
  split at e
  · rename_i us0
    split at e
    · rename_i u hu
      cases e
      obtain ⟨rfl, rfl⟩ := sh_lst ow.sh
      cases dx
      obtain ⟨w, F1, T1, F2, T2, h1, h2, h3, rfl, rfl⟩ := ow.ds.dropLast hu
      have hn := (List.nodup_cons.mp ow.nd)
      exact ⟨w, .lst ws.dropLast, _, ws.dropLast, F1, T1, F2, by unfold CC.fPop; dsimp only; rw [ow.at_]; dsimp only; rw [h1], .lst, h2, fun a m => ow.shr a (List.mem_append_left _ m), fun a m => .inl (List.mem_append_left _ m), D.nb h3 (fun a m => ow.own a (List.mem_cons_of_mem _ (List.mem_append_right _ m))) (fun a m => ow.shr a (List.mem_append_right _ m)), fun a m => .inl (List.mem_append_right _ m), hn.2⟩
    · cases e
  · cases e
theorem D0s.erase {xs : List U} {vs : List W} {F T : List Nat} (h : D0s c xs vs F T) (nd : F.Nodup) : ∀ {k : Nat} {u : U}, xs[k]? = some u → ∃ w F1 T1 F2 T2, vs[k]? = some w ∧ D0s c (xs.eraseIdx k) (vs.eraseIdx k) F1 T1 ∧ D0 c u w F2 T2 ∧ (∀ a ∈ F1, a ∈ F) ∧ (∀ a ∈ F2, a ∈ F) ∧ (∀ a ∈ T1, a ∈ T) ∧ (∀ a ∈ T2, a ∈ T) ∧ (F1 ++ F2).Nodup := by
  induction xs generalizing vs F T with
  | nil => intro k u e; simp at e
  | cons x xs ih =>
    intro k u e
    cases h with
    | @cons _ w _ vs Fa Ta Fb Tb d r =>
      have nd2 := List.nodup_append.mp nd
      cases k with
      | zero =>
        simp at e
        subst e
        exact ⟨w, Fb, Tb, Fa, Ta, rfl, r, d, fun a m => List.mem_append_right _ m, fun a m => List.mem_append_left _ m, fun a m => List.mem_append_right _ m, fun a m => List.mem_append_left _ m, List.nodup_append.mpr ⟨nd2.2.1, nd2.1, fun a m b m2 e => nd2.2.2 b m2 a m e.symm⟩⟩
      | succ k =>
        obtain ⟨w', F1, T1, F2, T2, h1, h2, h3, h4, h5, h6, h7, h8⟩ := ih r nd2.2.1 (u := u) (by simpa using e)
        have n8 := List.nodup_append.mp h8
        refine ⟨w', Fa ++ F1, Ta ++ T1, F2, T2, by simpa using h1, .cons d h2, h3, fun a m => (List.mem_append.mp m).elim (List.mem_append_left _) fun m => List.mem_append_right _ (h4 a m), fun a m => List.mem_append_right _ (h5 a m), fun a m => (List.mem_append.mp m).elim (List.mem_append_left _) fun m => List.mem_append_right _ (h6 a m), fun a m => List.mem_append_right _ (h7 a m), ?_⟩
        rw [List.append_assoc]
        refine List.nodup_append.mpr ⟨nd2.1, h8, fun a m b m2 e => ?_⟩
        exact nd2.2.2 a m b ((List.mem_append.mp m2).elim (h4 b) (h5 b)) e
theorem x_mPopAt : MtW CC.fPopAt mPopAt := fun {p s E B o o' r n ob us ws F T xs wx Fx} ow dx nd e => by
  unfold mPopAt at e
  split at e
  · rename_i us0 i
    split at e
    · rename_i k hk
      split at e
      · rename_i hb
        split at e
        · rename_i u hu
          cases e
          obtain ⟨rfl, rfl⟩ := sh_lst ow.sh
          obtain ⟨wi, rfl, di⟩ := dx.one
          obtain rfl := di.is_int
          have hn := (List.nodup_cons.mp ow.nd)
          obtain ⟨w, F1, T1, F2, T2, h1, h2, h3, h4, h5, h6, h7, h8⟩ := ow.ds.erase hn.2 hu
          exact ⟨w, .lst (ws.eraseIdx k), _, ws.eraseIdx k, F1, T1, F2, by unfold CC.fPopAt; dsimp only; rw [ow.at_]; dsimp only; rw [← ow.ds.len, hk]; dsimp only; rw [if_pos hb, h1], .lst, h2, fun a m => ow.shr a (h6 a m), fun a m => .inl (h4 a m), D.nb h3 (fun a m => ow.own a (List.mem_cons_of_mem _ (h5 a m))) (fun a m => ow.shr a (h7 a m)), fun a m => .inl (h5 a m), h8⟩
        · cases e
      · cases e
    · cases e
  · cases e
theorem x_mClear : MtW CC.fClear mClear := fun {p s E B o o' r n ob us ws F T xs wx Fx} ow dx nd e => by
  unfold mClear at e
  split at e
  · cases e
    obtain ⟨rfl, rfl⟩ := sh_lst ow.sh
    cases dx
    exact ⟨.non, .lst [], [], [], [], [], [], by unfold CC.fClear; dsimp only; rw [ow.at_], .lst, .nil, no, no, d_non, no, by simp⟩
  · cases e
theorem x_mReverse : MtW CC.fReverse mReverse := fun {p s E B o o' r n ob us ws F T xs wx Fx} ow dx nd e => by
  unfold mReverse at e
  split at e
  · cases e
    obtain ⟨rfl, rfl⟩ := sh_lst ow.sh
    cases dx
    have rev : ∀ {xs : List U} {vs : List W} {F T : List Nat}, D0s (rd p s) xs vs F T → F.Nodup → ∃ F' T', D0s (rd p s) xs.reverse vs.reverse F' T' ∧ F'.Nodup ∧ (∀ a ∈ F', a ∈ F) ∧ ∀ a ∈ T', a ∈ T := by
      intro xs
      induction xs with
      | nil => intro vs F T h nd; cases h; exact ⟨[], [], .nil, List.nodup_nil, no, no⟩
      | cons x xs ih =>
        intro vs F T h nd
        cases h with
        | @cons _ w _ vs Fa Ta Fb Tb d r =>
          have nd2 := List.nodup_append.mp nd
          obtain ⟨F', T', h1, h2, h3, h4⟩ := ih r nd2.2.1
          refine ⟨F' ++ Fa, T' ++ Ta, by rw [List.reverse_cons, List.reverse_cons]; exact h1.app (.one d), List.nodup_append.mpr ⟨h2, nd2.1, fun a m b m2 e => nd2.2.2 b m2 a (h3 a m) e.symm⟩, fun a m => (List.mem_append.mp m).elim (fun m => List.mem_append_right _ (h3 a m)) (List.mem_append_left _), fun a m => (List.mem_append.mp m).elim (fun m => List.mem_append_right _ (h4 a m)) (List.mem_append_left _)⟩
    obtain ⟨F', T', h1, h2, h3, h4⟩ := rev ow.ds (List.nodup_cons.mp ow.nd).2
    exact ⟨.non, .lst ws.reverse, _, ws.reverse, F', T', [], by unfold CC.fReverse; dsimp only; rw [ow.at_], .lst, h1, fun a m => ow.shr a (h4 a m), fun a m => .inl (h3 a m), d_non, no, by rw [List.append_nil]; exact h2⟩
  · cases e
end
end CV
set_option Elab.async false
set_option linter.all false
set_option maxRecDepth 100000
/-! CV12: stores, try, == by an own __eq__, the end -/
namespace CV
open PySem PySem.Spec PyProof.Rows L2
open CC (W Ob S Hh Lo R RS rd wr al nxt ItD i64 mapO TK)

def setO (o j u : U) : Option U := match o, j with
  | .lst .o us, .int i => (match ixN us.length i with | some k => if noB u then some (.lst .o (us.set k u)) else none | none => none)
  | .dct .o kvs, j => (match keyU j with | some k => if kvs.length < 1000000 ∧ (noB u && noO u) = true then some (.dct .o (putKU kvs k u)) else none | none => none)
  | .dtt .o kvs, j => (match keysU j with | some k => if kvs.length < 1000000 ∧ (noB u && noO u) = true then some (.dtt .o (putKU kvs k u)) else none | none => none)
  | _, _ => none
/-- x[j] = value -/
def gSt (i : Nat) (mi : VL → RU U) : U → VL → Option VL := fun u v => match v[i]? with
  | some (some _) => (match mi v with
    | .ok j v1 => (match v1[i]? with
      | some (some o) => (match setO o j u with
        | some o' => some (v1.set i (some o'))
        | none => none)
      | _ => none)
    | _ => none)
  | _ => none
/-- a value of a dict: given up -/
def gFz (g : U → VL → Option VL) : U → VL → Option VL := fun u v => g (frz u) v
def putFU (i : Nat) (w : U) : List (Nat × U) → List (Nat × U)
  | [] => [(i, w)]
  | (j, u) :: r => if j = i then (j, w) :: r else (j, u) :: putFU i w r
/-- x.f = value -/
def sFldA (k i j : Nat) (me : VL → RU U) : VL → RSU := fun v => (me v).toS fun u v1 => match v1[j]? with
  | some (some (.ins .o d fs)) => if d = k ∧ fs.length < 900 ∧ noB u = true then .nx (v1.set j (some (.ins .o k (putFU i u fs)))) else .bad
  | _ => .bad
section
variable {C : Ct} {md : Bool} {c c1 : Cf} {E E1 K K1 B : Pr} {l : Lo} {vl : VL} {s : S} {Fs : Nat → List Nat} {o o' u : U} {w : W} {F : List Nat} {n : Nat} {ob ob' : Ob} {us us' : List U} {ws ws' : List W} {F' T T' : List Nat}
theorem D0s.set {xs : List U} {vs : List W} {F T : List Nat} (h : D0s c xs vs F T) {u : U} {w : W} {Fu Tu : List Nat} (d : D0 c u w Fu Tu) (nd : (F ++ Fu).Nodup) : ∀ k : Nat, ∃ F' T', D0s c (xs.set k u) (vs.set k w) F' T' ∧ F'.Nodup ∧ (∀ a ∈ F', a ∈ F ∨ a ∈ Fu) ∧ ∀ a ∈ T', a ∈ T ∨ a ∈ Tu := by
  induction xs generalizing vs F T with
  | nil => intro k; cases h; exact ⟨[], [], .nil, List.nodup_nil, no, no⟩
  | cons x xs ih =>
    intro k
    cases h with
    | @cons _ w' _ vs Fa Ta Fb Tb d' r =>
      have n1 := List.nodup_append.mp nd
      have n2 := List.nodup_append.mp n1.1
      cases k with
      | zero => exact ⟨Fu ++ Fb, Tu ++ Tb, .cons d r, List.nodup_append.mpr ⟨n1.2.1, n2.2.1, fun a m b m2 e => n1.2.2 b (List.mem_append_right _ m2) a m e.symm⟩, fun a m => (List.mem_append.mp m).elim .inr fun m => .inl (List.mem_append_right _ m), fun a m => (List.mem_append.mp m).elim .inr fun m => .inl (List.mem_append_right _ m)⟩
      | succ k =>
        obtain ⟨F', T', h1, h2, h3, h4⟩ := ih r (List.nodup_append.mpr ⟨n2.2.1, n1.2.1, fun a m b m2 e => n1.2.2 a (List.mem_append_right _ m) b m2 e⟩) k
        refine ⟨Fa ++ F', Ta ++ T', .cons d' h1, List.nodup_append.mpr ⟨n2.1, h2, fun a m b m2 e => ?_⟩, fun a m => (List.mem_append.mp m).elim (fun m => .inl (List.mem_append_left _ m)) fun m => (h3 a m).imp (List.mem_append_right _) id, fun a m => (List.mem_append.mp m).elim (fun m => .inl (List.mem_append_left _ m)) fun m => (h4 a m).imp (List.mem_append_right _) id⟩
        rcases h3 b m2 with m2 | m2
        · exact n2.2.2 a m b m2 e
        · exact n1.2.2 a (List.mem_append_left _ m) b m2 e
theorem putK_ok {κ : Type} [DecidableEq κ] {k : κ} {u : U} {w : W} {Tu : List Nat} (d : D0 c u w [] Tu) : ∀ {kvs : List (κ × U)} {kws : List (κ × W)} {F T : List Nat}, kvs.map (·.1) = kws.map (·.1) → D0s c (kvs.map (·.2)) (kws.map (·.2)) F T → F.Nodup →
    hasU k kvs = CC.hasW k kws ∧ ∃ F' T', (setU k u kvs).map (·.1) = (CC.setW k w kws).map (·.1) ∧ D0s c ((setU k u kvs).map (·.2)) ((CC.setW k w kws).map (·.2)) F' T' ∧ F'.Nodup ∧ (∀ a ∈ F', a ∈ F) ∧ ∀ a ∈ T', a ∈ T ∨ a ∈ Tu
  | [], [], F, T, h, ds, nd => ⟨rfl, F, T, rfl, ds, nd, fun a h => h, fun a h => .inl h⟩
  | [], _ :: _, F, T, h, ds, nd => by cases h
  | _ :: _, [], F, T, h, ds, nd => by cases h
  | (j, x) :: kvs, (j', y) :: kws, F, T, h, ds, nd => by
    simp only [List.map_cons, List.cons.injEq] at h
    obtain ⟨rfl, h⟩ := h
    cases ds with
    | @cons _ _ _ _ Fa Ta Fb Tb d' r =>
      have n2 := List.nodup_append.mp nd
      obtain ⟨i1, F', T', i2, i3, i4, i5, i6⟩ := putK_ok (k := k) d h r n2.2.1
      unfold hasU CC.hasW setU CC.setW
      by_cases e : j = k
      · simp only [if_pos e, List.map_cons, i2]
        exact ⟨trivial, F', Tu ++ T', trivial, .cons (F := []) d i3, i4, fun a m => List.mem_append_right _ (i5 a m), fun a m => (List.mem_append.mp m).elim .inr fun m => (i6 a m).imp (List.mem_append_right _) id⟩
      · simp only [if_neg e, List.map_cons, i2]
        exact ⟨i1, Fa ++ F', Ta ++ T', trivial, .cons d' i3, List.nodup_append.mpr ⟨n2.1, i4, fun a m b m2 e => n2.2.2 a m b (i5 b m2) e⟩, fun a m => (List.mem_append.mp m).elim (List.mem_append_left _) fun m => List.mem_append_right _ (i5 a m), fun a m => (List.mem_append.mp m).elim (fun m => .inl (List.mem_append_left _ m)) fun m => (i6 a m).imp (List.mem_append_right _) id⟩
theorem putKU_ok {κ : Type} [DecidableEq κ] {k : κ} {u : U} {w : W} {Tu : List Nat} (d : D0 c u w [] Tu) {kvs : List (κ × U)} {kws : List (κ × W)} {F T : List Nat} (h : kvs.map (·.1) = kws.map (·.1)) (ds : D0s c (kvs.map (·.2)) (kws.map (·.2)) F T) (nd : F.Nodup) :
    ∃ F' T', (putKU kvs k u).map (·.1) = (CC.putKW kws k w).map (·.1) ∧ D0s c ((putKU kvs k u).map (·.2)) ((CC.putKW kws k w).map (·.2)) F' T' ∧ F'.Nodup ∧ (∀ a ∈ F', a ∈ F) ∧ ∀ a ∈ T', a ∈ T ∨ a ∈ Tu := by
  obtain ⟨i1, F', T', i2, i3, i4, i5, i6⟩ := putK_ok (k := k) d h ds nd
  unfold putKU CC.putKW
  rw [← i1]
  cases hasU k kvs with
  | true => exact ⟨F', T', i2, i3, i4, i5, i6⟩
  | false =>
    simp only [Bool.false_eq_true, if_false, List.map_append, h, List.map_cons, List.map_nil]
    refine ⟨F ++ [], T ++ Tu, trivial, ?_, by rw [List.append_nil]; exact nd, fun a m => by simpa using m, fun a m => List.mem_append.mp m⟩
    exact ds.app (.one d)
theorem setO_ok {p : Hh} {j : U} {wj wu : W} {Fj Fu : List Nat} (ow : Own (rd p s) E o n ob us ws F T) (dj : D (rd p s) E B j wj Fj) (du : D (rd p s) E B u wu Fu) (nd : (n :: F ++ Fu).Nodup) (h : setO o j u = some o') :
    ∃ ob' us' ws' F' T', CC.gSetX p (.ref n) wj wu s = some (wr p s n ob') ∧ Sh .o o' us' ob' ws' ∧ D0s (rd p s) us' ws' F' T' ∧ (∀ a ∈ T', ¬ E a) ∧ F'.Nodup ∧ ∀ a ∈ F', a ∈ F ∨ a ∈ Fu := by
  have hn := List.nodup_append.mp nd
  have ndF := (List.nodup_cons.mp hn.1).2
  unfold setO at h
  split at h
  · rename_i us0 i
    split at h
    · rename_i k hk
      split at h
      · rename_i hb
        cases h
        obtain rfl := dj.is_int
        obtain ⟨rfl, rfl⟩ := sh_lst ow.sh
        obtain ⟨T1, d0, t1, t2⟩ := du.to0 hb
        obtain ⟨F', T', h1, h2, h3, h4⟩ := ow.ds.set d0 (List.nodup_append.mpr ⟨ndF, hn.2.1, fun a m b m2 => hn.2.2 a (List.mem_cons_of_mem _ m) b m2⟩) k
        exact ⟨.lst (ws.set k wu), _, _, F', T', by unfold CC.gSetX; dsimp only; rw [ow.at_]; dsimp only; rw [← ow.ds.len, hk], .lst, h1, fun a m => (h4 a m).elim (ow.shr a) (t2 a), h2, h3⟩
      · cases h
    · cases h
  · rename_i kvs
    split at h
    · rename_i k hk
      split at h
      · rename_i hl
        cases h
        rw [Bool.and_eq_true] at hl
        obtain rfl := du.noO hl.2.2
        obtain ⟨T1, d0, t1, t2⟩ := du.to0 hl.2.1
        have sh := ow.sh
        have ds := ow.ds
        have at_ := ow.at_
        cases sh with
        | @dct _ _ kws hk2 =>
          obtain ⟨F', T', h1, h2, h3, h4, h5⟩ := putKU_ok (k := k) d0 hk2 ds ndF
          have hl2 : kws.length < 1000000 := by
            have := congrArg List.length hk2
            simp only [List.length_map] at this
            omega
          exact ⟨.dct (CC.putKW kws k wu), _, _, F', T', by unfold CC.gSetX; dsimp only; rw [at_]; dsimp only; rw [key_ok dj hk]; dsimp only; rw [if_pos hl2], .dct h1, h2, fun a m => (h5 a m).elim (ow.shr a) (t2 a), h3, fun a m => .inl (h4 a m)⟩
      · cases h
    · cases h
  · rename_i kvs
    split at h
    · rename_i k hk
      split at h
      · rename_i hl
        cases h
        rw [Bool.and_eq_true] at hl
        obtain rfl := du.noO hl.2.2
        obtain ⟨T1, d0, t1, t2⟩ := du.to0 hl.2.1
        have sh := ow.sh
        have ds := ow.ds
        have at_ := ow.at_
        cases sh with
        | @dtt _ _ kws hk2 =>
          obtain ⟨F', T', h1, h2, h3, h4, h5⟩ := putKU_ok (k := k) d0 hk2 ds ndF
          have hl2 : kws.length < 1000000 := by
            have := congrArg List.length hk2
            simp only [List.length_map] at this
            omega
          exact ⟨.dtt (CC.putKW kws k wu), _, _, F', T', by unfold CC.gSetX; dsimp only; rw [at_]; dsimp only; rw [keys_ok dj hk]; dsimp only; rw [if_pos hl2], .dtt h1, h2, fun a m => (h5 a m).elim (ow.shr a) (t2 a), h3, fun a m => .inl (h4 a m)⟩
      · cases h
    · cases h
  · cases h
theorem setO_own (h : setO o o' u = some (us.headD .non)) : isOwn o = true := by
  unfold setO at h
  split at h <;> first | rfl | cases h
theorem sim_sub {i : Nat} {a : VL → RU U} {ma : Lo → S → R W} (ha : SimE C true a ma) : SimG C (gSt i a) (CC.gSubT CC.gSetX C.p (CC.eVar i) ma) := fun s l vl E K B Fs u w F r d f => by
  unfold gSt
  cases e0 : vl[i]? with
  | none => trivial
  | some o0 => cases o0 with
    | none => trivial
    | some u0 =>
      dsimp only
      obtain ⟨w0, hw, d0⟩ := r.has i u0 e0
      have h := ha s l vl E (kU K F) B Fs (r.grow f fun a m => ⟨d.alive a m, d.own a m⟩)
      cases e : a vl with
      | bad => trivial
      | exc _ _ _ => trivial
      | ok j v1 =>
        rw [e] at h
        obtain ⟨wj, s2, E2, Fj, Fs2, e2, k2, r2, dj, fj⟩ := h
        dsimp only
        cases e3 : v1[i]? with
        | none => trivial
        | some o1 => cases o1 with
          | none => trivial
          | some o =>
            dsimp only
            cases q : setO o j u with
            | none => trivial
            | some o' =>
              dsimp only
              have hown : isOwn o = true := by
                unfold setO at q
                split at q <;> first | rfl | cases q
              obtain ⟨w1, hw1, d1⟩ := r2.has i o e3
              rw [hw] at hw1
              cases hw1
              have oi := (r2.own rfl).1 i
              obtain ⟨n, ob, us, ws, F0, T0, ew, eF, ow⟩ := d1.toOwn oi.1 hown
              subst ew
              have d' := d.mono k2 (fun n h => .inl (r.bk n h)) fun a m => .inr m
              have r2' := r2.weak (K := K) (fun n h => .inl h) r.bk
              have ff : ∀ a ∈ F, ¬ K a ∧ ∀ j, a ∉ Fs2 j := fun a m => ⟨(f.2 a m).1, fun j => r2.sep r.bk m (f.2 a m).1 j⟩
              obtain ⟨ob', us', ws', F', T', h1, h2, h3, h4, h5, h6⟩ := setO_ok ow dj d' (by
                rw [← eF]
                exact List.nodup_append.mpr ⟨oi.1, f.1, fun a h b h2 e => (ff b h2).2 i (e ▸ h)⟩) q
              obtain ⟨k3, r3⟩ := r2'.write hw eF ow h2 h3 h4 h5 fun a m => (h6 a m).imp id fun m => ⟨d'.own a m, ff a m⟩
              refine ⟨l, wr C.p s2 n ob', E2, _, ?_, (k2.weak fun n h => .inl h).trans k3, r3⟩
              unfold CC.gSubT
              rw [var_ok hw]
              dsimp only
              rw [e2]
              dsimp only
              rw [h1]
theorem sim_fz {g : U → VL → Option VL} {m : W → Lo → S → CC.OG} (h : SimG C g m) : SimG C (gFz g) m := fun s l vl E K B Fs u w F r d f => by
  have q := h s l vl (dn E F) K B Fs (frz u) w [] (r.dn f.2 d.alive) d.frz' .nil
  unfold gFz
  cases e : g (frz u) vl with
  | none => trivial
  | some v =>
    rw [e] at q
    obtain ⟨l', s', E', Fs', h1, h2, h3⟩ := q
    exact ⟨l', s', E', Fs', h1, (Keep.dn fun a m => (f.2 a m).1).trans h2, h3⟩
theorem putF_ok {i : Nat} {u : U} {w : W} {Fu Tu : List Nat} (d : D0 c u w Fu Tu) : ∀ {fs : List (Nat × U)} {gs : List (Nat × W)} {F T : List Nat}, fs.map (·.1) = gs.map (·.1) → D0s c (fs.map (·.2)) (gs.map (·.2)) F T → (F ++ Fu).Nodup →
    ∃ F' T', (putFU i u fs).map (·.1) = (CC.putW i w gs).map (·.1) ∧ D0s c ((putFU i u fs).map (·.2)) ((CC.putW i w gs).map (·.2)) F' T' ∧ F'.Nodup ∧ (∀ a ∈ F', a ∈ F ∨ a ∈ Fu) ∧ ∀ a ∈ T', a ∈ T ∨ a ∈ Tu
  | [], [], F, T, h, ds, nd => by
    cases ds
    exact ⟨Fu, Tu, rfl, .one d, (List.nodup_append.mp nd).2.1, fun a m => .inr m, fun a m => .inr m⟩
  | [], _ :: _, F, T, h, ds, nd => by cases h
  | _ :: _, [], F, T, h, ds, nd => by cases h
  | (j, x) :: fs, (j', y) :: gs, F, T, h, ds, nd => by
    simp only [List.map_cons, List.cons.injEq] at h
    obtain ⟨rfl, h⟩ := h
    cases ds with
    | @cons _ _ _ _ Fa Ta Fb Tb d' r =>
      have n1 := List.nodup_append.mp nd
      have n2 := List.nodup_append.mp n1.1
      unfold putFU CC.putW
      by_cases e : j = i
      · simp only [if_pos e, List.map_cons, h]
        exact ⟨Fu ++ Fb, Tu ++ Tb, trivial, .cons d r, List.nodup_append.mpr ⟨n1.2.1, n2.2.1, fun a m b m2 e => n1.2.2 b (List.mem_append_right _ m2) a m e.symm⟩, fun a m => (List.mem_append.mp m).elim .inr fun m => .inl (List.mem_append_right _ m), fun a m => (List.mem_append.mp m).elim .inr fun m => .inl (List.mem_append_right _ m)⟩
      · obtain ⟨F', T', i2, i3, i4, i5, i6⟩ := putF_ok (i := i) d h r (List.nodup_append.mpr ⟨n2.2.1, n1.2.1, fun a m b m2 e => n1.2.2 a (List.mem_append_right _ m) b m2 e⟩)
        simp only [if_neg e, List.map_cons, i2]
        refine ⟨Fa ++ F', Ta ++ T', trivial, .cons d' i3, List.nodup_append.mpr ⟨n2.1, i4, fun a m b m2 e => ?_⟩, fun a m => (List.mem_append.mp m).elim (fun m => .inl (List.mem_append_left _ m)) fun m => (i5 a m).imp (List.mem_append_right _) id, fun a m => (List.mem_append.mp m).elim (fun m => .inl (List.mem_append_left _ m)) fun m => (i6 a m).imp (List.mem_append_right _) id⟩
        rcases i5 b m2 with m2 | m2
        · exact n2.2.2 a m b m2 e
        · exact n1.2.2 a (List.mem_append_left _ m) b m2 e
theorem sim_fldA {k i j : Nat} {a : VL → RU U} {ma : Lo → S → R W} (ha : SimE C true a ma) : SimS C (sFldA k i j a) (CC.sFldA k i C.p (CC.eVar j) ma) := fun s l vl E K B Fs r => by
  unfold CC.sFldA
  rw [toS_eq]
  refine AftS.val (rel := D) (ha s l vl E K B Fs r) fun u v w s2 E2 F Fs2 k2 r2 d f => ?_
  split
  · rename_i d' fs ho
    split
    · rename_i h
      obtain ⟨rfl, hl, hb⟩ := h
      obtain ⟨w1, hw1, d1⟩ := r2.has j _ ho
      have oi := (r2.own rfl).1 j
      obtain ⟨n, ob, us, ws, F0, T0, rfl, eF, ow⟩ := d1.toOwn oi.1 rfl
      obtain ⟨T1, d0, t1, t2⟩ := d.to0 hb
      have sh := ow.sh
      have ds := ow.ds
      have at_ := ow.at_
      have hn := List.nodup_cons.mp ow.nd
      have mi : ∀ a, a ∈ F0 → a ∈ Fs2 j := fun a m => by rw [eF]; exact List.mem_cons_of_mem _ m
      cases sh with
      | @ins _ _ _ gs hk =>
        obtain ⟨F', T', h1, h2, h3, h4, h5⟩ := putF_ok (i := i) d0 hk ds (List.nodup_append.mpr ⟨hn.2, f.1, fun a m b m2 e => (f.2 b m2).2 j (e ▸ mi a m)⟩)
        obtain ⟨k3, r3⟩ := r2.write hw1 eF ow (o' := .ins .o d' (putFU i u fs)) (ob' := .ins d' (CC.putW i w gs)) (.ins h1) h2 (fun a m => (h5 a m).elim (ow.shr a) (t2 a)) h3 fun a m => (h4 a m).imp id fun m => ⟨t1 a m, f.2 a m⟩
        have hl2 : gs.length < 900 := by
          have := congrArg List.length hk
          simp only [List.length_map] at this
          omega
        rw [var_ok hw1]
        show AftS C _ E K B _ (match rd C.p s2 n with | some (.ins d fs) => if d = d' ∧ fs.length < 900 then RS.nx l (wr C.p s2 n (.ins d' (CC.putW i w fs))) else .bad | _ => .bad)
        rw [at_]
        dsimp only
        rw [if_pos ⟨rfl, hl2⟩]
        exact ⟨l, _, E2, _, rfl, k2.trans k3, r3⟩
    · trivial
  · trivial
theorem sim_aug {i : Nat} {f : Hh → W → W → S → CC.O2} {g : U → U → Option U} {a : VL → RU U} {ma : Lo → S → R W} (hm : C.mp = none ∨ i ≠ C.mi) (hf : Op2 f g) (ha : SimE C true a ma) : SimS C (sAug g i a) (CC.sAug f C.p i ma) := fun s l vl E K B Fs r => by
  unfold sAug eVarN CC.sAug
  cases e : vl[i]? with
  | none => trivial
  | some o => cases o with
    | none => trivial
    | some x =>
      dsimp only
      split
      · rename_i hx
        obtain ⟨wx, hw, dx⟩ := r.has i x e
        have f0 := dx.noO hx
        rw [f0] at dx
        rw [hw]
        dsimp only
        rw [toS_eq]
        show AftS C _ E K B ((a vl).toS fun y v1 => match g x y with | some z => .nx (v1.set i (some z)) | none => .bad) _
        refine AftS.val (rel := D) (ha s l vl E K B Fs r) fun y v wy s2 E2 F Fs2 k2 r2 dy fy => ?_
        cases q : g x y with
        | none => trivial
        | some z =>
          obtain ⟨w, s3, F3, h1, x3, al, d3, nd3, sub⟩ := hf (dx.mono k2 r.bk no) dy r2.ev (by simpa using fy.1) q
          rw [h1]
          dsimp only
          have r3 := r2.ext x3 al
          obtain ⟨l', s', E', Fs', h4, h5, h6⟩ := sim_nm i hm s3 l v E2 K B Fs2 z w F3 r3 d3 ⟨nd3, fun a m => (sub a m).elim (fun m => fy.2 a (by simpa using m)) fun e => ⟨fun h => (r2.ka a h).1 e, fun j h => (r2.ex j a h).1 e⟩⟩
          cases h4
          exact ⟨_, s3, E', Fs', rfl, (k2.trans (x3.keep r2.ka)).trans h5, h6⟩
      · trivial
end
/-! try -/
structure HCV where
  cx : Nat
  no : List Nat
  slot : Option Nat
  su : U → VL → RSU
def hRun : List HCV → Nat → U → VL → RSU
  | [], c, u, v => .exc c u v
  | q :: r, c, u, v => if c = q.cx then (match q.slot with
      | none => (match q.su u v with
        | .exc _ _ _ => .bad
        | r => r)
      | some i => if i < v.length then (match q.su u (v.set i none) with
        | .nx v2 => .nx (v2.set i none)
        | .brk v2 => .brk (v2.set i none)
        | .ct v2 => .ct (v2.set i none)
        | .ret u2 v2 => .ret u2 v2
        | _ => .bad) else .bad)
    else if c ∈ q.no then hRun r c u v else .bad
def sTry (mb : VL → RSU) (hs : List HCV) : VL → RSU := fun v => match mb v with
  | .exc c u v1 => hRun hs c u v1
  | r => r
inductive SimH (C : Ct) : List HCV → List CC.HC → Prop
  | nil : SimH C [] []
  | bare {cx : Nat} {no : List Nat} {su : U → VL → RSU} {su' : W → Lo → S → RS} {hs : List HCV} {hs' : List CC.HC} (h : ∀ u w, SimS ⟨C.p, (u, w) :: C.aux, C.mp, C.mi⟩ (su u) (su' w)) (r : SimH C hs hs') : SimH C (⟨cx, no, none, su⟩ :: hs) (⟨cx, no, none, su'⟩ :: hs')
  | named {cx : Nat} {no : List Nat} {i : Nat} {su : U → VL → RSU} {su' : W → Lo → S → RS} {hs : List HCV} {hs' : List CC.HC} (hm : C.mp = none ∨ i ≠ C.mi) (h : ∀ u w, SimS ⟨C.p, (u, w) :: C.aux, C.mp, C.mi⟩ (su u) (su' w)) (r : SimH C hs hs') : SimH C (⟨cx, no, some i, su⟩ :: hs) (⟨cx, no, some i, su'⟩ :: hs')
section
variable {C : Ct} {md : Bool} {c c1 : Cf} {E E1 K K1 B : Pr} {l : Lo} {vl : VL} {s : S} {Fs : Nat → List Nat} {o o' u : U} {w : W} {F : List Nat}
theorem SL.aux (r : SL C md c E K B vl l Fs) (d : D c E B u w []) : SL ⟨C.p, (u, w) :: C.aux, C.mp, C.mi⟩ md c E K B vl l Fs :=
  ⟨r.len, r.has, r.own, r.bor, r.ex, fun u' w' m => by
    rcases List.mem_cons.mp m with e | m
    · cases e; exact d
    · exact r.ax u' w' m, r.mpk, r.ev, r.bk, r.ka⟩
theorem SL.unaux {x : U × W} (r : SL ⟨C.p, x :: C.aux, C.mp, C.mi⟩ md c E K B vl l Fs) : SL C md c E K B vl l Fs :=
  ⟨r.len, r.has, r.own, r.bor, r.ex, fun u' w' m => r.ax u' w' (List.mem_cons_of_mem _ m), r.mpk, r.ev, r.bk, r.ka⟩
theorem SL.gone (r : SL C true c E K B vl l Fs) (i : Nat) (hm : C.mp = none ∨ i ≠ C.mi) : SL C true c E K B (vl.set i none) (l.set i none) (upF Fs i []) :=
  r.put i none .non _ (by simp) (fun j h => List.getElem?_set_ne (Ne.symm h)) (fun u z => (nomatch z)) (fun w' e => by
      rcases hm with hm | hm
      · rw [hm] at e; cases e
      · rw [List.getElem?_set_ne hm]; exact r.mpk w' e) List.nodup_nil no
theorem hRun_ok {hs : List HCV} {hs' : List CC.HC} (h : SimH C hs hs') {k : Nat} (r : SL C true (rd C.p s) E K B vl l Fs) (d : D (rd C.p s) E nB u w []) : AftS C (rd C.p s) E K B (hRun hs k u vl) (CC.hRun hs' k w l s) := by
  induction h with
  | nil => exact ⟨w, l, s, E, Fs, rfl, .rfl', r, d⟩
  | @bare cx nos su su' hs hs' h _ ih =>
    unfold hRun CC.hRun
    dsimp only
    by_cases e : k = cx
    · rw [if_pos e, if_pos e]
      have q := h u w s l vl E K B Fs (r.aux (d.in fun _ h => h.elim))
      cases e2 : su u vl with
      | nx v => rw [e2] at q; obtain ⟨l1, s1, E1, Fs1, e3, k1, r1⟩ := q; rw [e3]; exact ⟨l1, s1, E1, Fs1, rfl, k1, r1.unaux⟩
      | brk v => rw [e2] at q; obtain ⟨l1, s1, E1, Fs1, e3, k1, r1⟩ := q; rw [e3]; exact ⟨l1, s1, E1, Fs1, rfl, k1, r1.unaux⟩
      | ct v => rw [e2] at q; obtain ⟨l1, s1, E1, Fs1, e3, k1, r1⟩ := q; rw [e3]; exact ⟨l1, s1, E1, Fs1, rfl, k1, r1.unaux⟩
      | ret u2 v => rw [e2] at q; obtain ⟨w2, l1, s1, E1, F1, Fs1, e3, k1, r1, d1, f1⟩ := q; rw [e3]; exact ⟨w2, l1, s1, E1, F1, Fs1, rfl, k1, r1.unaux, d1, f1⟩
      | exc _ _ _ => trivial
      | bad => trivial
    · rw [if_neg e, if_neg e]
      by_cases e2 : k ∈ nos
      · rw [if_pos e2, if_pos e2]; exact ih
      · rw [if_neg e2]; trivial
  | @named cx nos i su su' hs hs' hm h _ ih =>
    unfold hRun CC.hRun
    dsimp only
    by_cases e : k = cx
    · rw [if_pos e, if_pos e, r.len]
      by_cases hi : i < l.length
      · rw [if_pos hi, if_pos hi]
        have q := h u w s (l.set i none) (vl.set i none) E K B _ ((r.gone i hm).aux (d.in fun _ h => h.elim))
        cases e2 : su u (vl.set i none) with
        | nx v => rw [e2] at q; obtain ⟨l1, s1, E1, Fs1, e3, k1, r1⟩ := q; rw [e3]; exact ⟨_, s1, E1, _, rfl, k1, r1.unaux.gone i hm⟩
        | brk v => rw [e2] at q; obtain ⟨l1, s1, E1, Fs1, e3, k1, r1⟩ := q; rw [e3]; exact ⟨_, s1, E1, _, rfl, k1, r1.unaux.gone i hm⟩
        | ct v => rw [e2] at q; obtain ⟨l1, s1, E1, Fs1, e3, k1, r1⟩ := q; rw [e3]; exact ⟨_, s1, E1, _, rfl, k1, r1.unaux.gone i hm⟩
        | ret u2 v => rw [e2] at q; obtain ⟨w2, l1, s1, E1, F1, Fs1, e3, k1, r1, d1, f1⟩ := q; rw [e3]; exact ⟨w2, l1, s1, E1, F1, Fs1, rfl, k1, r1.unaux, d1, f1⟩
        | exc _ _ _ => trivial
        | bad => trivial
      · rw [if_neg hi]; trivial
    · rw [if_neg e, if_neg e]
      by_cases e2 : k ∈ nos
      · rw [if_pos e2, if_pos e2]; exact ih
      · rw [if_neg e2]; trivial
theorem sim_try {b : VL → RSU} {mb : Lo → S → RS} {hs : List HCV} {hs' : List CC.HC} (hb : SimS C b mb) (hh : SimH C hs hs') : SimS C (sTry b hs) (CC.sTry mb hs') := fun s l vl E K B Fs r => by
  have h := hb s l vl E K B Fs r
  unfold sTry CC.sTry
  cases e : b vl with
  | nx v => rw [e] at h; obtain ⟨l1, s1, E1, Fs1, e2, h⟩ := h; rw [e2]; exact ⟨l1, s1, E1, Fs1, rfl, h⟩
  | brk v => rw [e] at h; obtain ⟨l1, s1, E1, Fs1, e2, h⟩ := h; rw [e2]; exact ⟨l1, s1, E1, Fs1, rfl, h⟩
  | ct v => rw [e] at h; obtain ⟨l1, s1, E1, Fs1, e2, h⟩ := h; rw [e2]; exact ⟨l1, s1, E1, Fs1, rfl, h⟩
  | ret u v => rw [e] at h; obtain ⟨w, l1, s1, E1, F, Fs1, e2, h⟩ := h; rw [e2]; exact ⟨w, l1, s1, E1, F, Fs1, rfl, h⟩
  | exc k u v =>
    rw [e] at h
    obtain ⟨w, l1, s1, E1, Fs1, e2, k1, r1, d1⟩ := h
    rw [e2]
    exact (hRun_ok hh r1 d1).then k1
  | bad => trivial
/-! == by an own __eq__ -/
def gEqO (k : Nat) (F : List U → RF) (x y : U) : Option U := match isCU k x with
  | false => gEq x y
  | true => (match isCU k y with
    | false => none
    | true => if noB x && noB y then (match F [bor x, bor y] with
      | .ok (.bl b) _ => some (.bl b)
      | _ => none) else none)
theorem isC_false {p : Hh} {k : Nat} (d : D (rd p s) E B u w F) (h : isCU k u = false) : CC.isC p s k w = false := by
  rcases d.node with rfl | ⟨_, rfl⟩ | ⟨_, rfl⟩ | ⟨_, rfl⟩ | ⟨us, rfl⟩ | ⟨z', us', n, ob, ws, F0, T0, rfl, e, q, r, f⟩
  · obtain rfl := d.is_non; rfl
  · obtain rfl := d.is_bl; rfl
  · obtain rfl := d.is_int; rfl
  · obtain rfl := d.is_str; rfl
  · obtain ⟨_, ws, rfl, _⟩ := d.is_tup; rfl
  · unfold CC.isC
    dsimp only
    rw [e]
    cases q <;> first | rfl | exact h
theorem D.isC' {p : Hh} {k : Nat} (d : D (rd p s) E B u w F) (h : isCU k u = true) : CC.isC p s k w = true := D.isC (C := ⟨p, [], none, 0⟩) d h
theorem x_eqO {k : Nat} {F : List U → RF} {m : Hh → List W → R W} (hF : SimF none F m) : Op2 (CC.gEqO k m) (gEqO k F) := fun {p s E B x y u wx wy Fx Fy} dx dy ev nd e => by
  unfold gEqO at e
  unfold CC.gEqO
  cases q : isCU k x with
  | false =>
    rw [q] at e
    rw [isC_false dx q]
    exact x_gEq dx dy ev nd e
  | true =>
    rw [q] at e
    rw [dx.isC' q]
    dsimp only at e ⊢
    cases q2 : isCU k y with
    | false => rw [q2] at e; cases e
    | true =>
      rw [q2] at e
      rw [dy.isC' q2]
      dsimp only at e ⊢
      split at e
      · rename_i hb
        rw [Bool.and_eq_true] at hb
        -- all that is one's own is lent
        have l1 : D (rd p s) E (fun n => rd p s n ≠ none ∧ E n) (bor x) wx [] := (dx.noB hb.1).bor fun a m => ⟨dx.alive a m, dx.own a m⟩
        have l2 : D (rd p s) E (fun n => rd p s n ≠ none ∧ E n) (bor y) wy [] := (dy.noB hb.2).bor fun a m => ⟨dy.alive a m, dy.own a m⟩
        have h := hF (CC.mat p s) [bor x, bor y] [wx, wy] E (fun n => rd p s n ≠ none ∧ E n) (fun n => rd p s n ≠ none ∧ E n) [] (by
          rw [mat_fun]
          exact .cons (F := []) l1 (.cons (F := []) l2 .nil)) List.nodup_nil no (by rw [mat_fun]; exact ev) (fun n h => h) (by rw [mat_fun]; exact fun n h => h)
        rw [mat_fun] at h
        split at e
        · rename_i b o e3
          cases e
          rw [e3] at h
          obtain ⟨w, s', E', F', Fo, e4, k, ev', d2, _⟩ := h
          obtain rfl := d2.is_bl
          refine ⟨.bl b, CC.mrg p s s', [], ?_, ?_, ?_, d_bl, List.nodup_nil, no⟩
          · unfold CC.callF
            rw [e4]
          · rw [mrg_fun]
            intro n ob hn
            by_cases q : E n
            · rw [(k.kp n ⟨by rw [hn]; simp, q⟩).1]; exact hn
            · exact (k.sh n ob hn q).1
          · rw [mrg_fun]
            intro n hn
            cases q : rd p s n with
            | none => rfl
            | some ob => exact absurd hn (k.al n (by rw [q]; simp))
        · cases e
      · cases e
end
/-! ### the end -/
theorem yes_of {F : List U → RF} {m : Hh → List W → R W} (hF : SimF none F m) {ns : List Int} {o : U} (h : F [.frz ns] = .ok (.bl true) o) : CC.Yes (m [.frz ns] [.ref 0]) := by
  have q := hF [.frz ns] [.frz ns] [.ref 0] (fun n => n ≠ 0) (fun _ => False) (fun _ => False) [] (.cons (F := []) ⟨[0], [], .z (.shr (n := 0) (ob := .frz ns) rfl .frz .nil), no, fun a m => by rw [List.mem_singleton.mp m]; exact fun z => z rfl, no⟩ .nil) List.nodup_nil no (fun n hn => by
    rintro rfl
    cases hn) (fun _ h => h) (fun _ h => h.elim)
  rw [h] at q
  obtain ⟨w, s, E', F', Fo, e, k, ev, d, _⟩ := q
  obtain rfl := d.is_bl
  exact ⟨s, e⟩
end CV
set_option Elab.async false
set_option linter.all false
set_option maxRecDepth 100000
/-! CVX: what the printed texts ask for besides -/
namespace CV
open PySem PySem.Spec PyProof.Rows L2
open CC (W Ob S Hh Lo R RS rd wr al nxt ItD)
def eBadV : VL → RU U := fun _ => .bad
def sBadV : VL → RSU := fun _ => .bad
theorem sim_bad {C : Ct} {md : Bool} {m : Lo → S → R W} : SimE C md eBadV m := fun _ _ _ _ _ _ _ _ => trivial
theorem sim_sbad {C : Ct} {m : Lo → S → RS} : SimS C sBadV m := fun _ _ _ _ _ _ _ _ => trivial
/-- a list whose items are only read -/
def eLstF (mr : VL → RU (List U)) : VL → RU U := fun v => (mr v).bind fun us v1 => if us.length ≤ 1000000 ∧ us.all noB = true then .ok (.lst .o (us.map frz)) v1 else .bad
theorem sim_lstF {C : Ct} {md : Bool} {a : VL → RU (List U)} {ma : Lo → S → R (List W)} (ha : SimA C md a ma) : SimE C md (eLstF a) (CC.eLst C.p ma) := fun s l vl E K B Fs r => by
  refine (ha s l vl E K B Fs r).bind r.bk fun us v ws s2 E2 F1 Fs2 k2 r2 d1 f1 => ?_
  split
  · rename_i q
    rw [if_pos (by rw [← d1.len]; exact q.1)]
    have d2 := d1.frz q.2 (B' := B) (G := F1) (fun a h => h)
    have q2 : (us.map frz).all noB = true := by
      have := q.2
      rw [List.all_eq_true] at this ⊢
      intro x hx
      obtain ⟨y, hy, rfl⟩ := List.mem_map.mp hx
      exact frz_noB (this y hy)
    have r3 := r2.dn f1.2 (d1.alive)
    obtain ⟨d, nd⟩ := new_lst d2 q2 r3.ev List.nodup_nil
    exact fin_ext (k2.trans (.dn fun a m => (f1.2 a m).1)) r3 Fr.nil ext_al none_al d nd fun a m => (List.mem_cons.mp m).elim (fun e => .inr (by rw [e]; exact rd_nxt)) .inl
  · trivial
/-- a fresh value that is given away -/
def eFre (m : VL → RU U) : VL → RU U := fun v => match m v with
  | .ok u v1 => .ok (frz u) v1
  | r => r
theorem sim_fre {C : Ct} {md : Bool} {a : VL → RU U} {ma : Lo → S → R W} (ha : SimE C md a ma) : SimE C md (eFre a) ma := fun s l vl E K B Fs r => by
  have q := ha s l vl E K B Fs r
  unfold eFre
  cases e : a vl with
  | ok u v =>
    rw [e] at q
    obtain ⟨w, s2, E2, F, Fs2, e2, k2, r2, d2, f2⟩ := q
    exact ⟨w, s2, dn E2 F, [], Fs2, e2, k2.trans (.dn fun a m => (f2.2 a m).1), r2.dn f2.2 d2.alive, d2.frz', Fr.nil⟩
  | exc _ _ _ => rw [e] at q; exact q
  | bad => trivial
end CV
set_option Elab.async false
set_option linter.all false
set_option maxRecDepth 100000
/-! CVNe: != by an own __eq__ -/
namespace CV
open PySem PySem.Spec PyProof.Rows L2
open CC (W Ob S Hh Lo R RS rd wr al nxt ItD)
def gNeO (k : Nat) (F : List U → RF) (x y : U) : Option U := match isCU k x with
  | false => gNe x y
  | true => (match isCU k y with
    | false => none
    | true => if noB x && noB y then (match F [bor x, bor y] with
      | .ok (.bl b) _ => some (.bl (!b))
      | _ => none) else none)
theorem x_neO {k : Nat} {F : List U → RF} {m : Hh → List W → R W} (hF : SimF none F m) : Op2 (CC.gNeO k m) (gNeO k F) := fun {p s E B x y u wx wy Fx Fy} dx dy ev nd e => by
  unfold gNeO at e
  unfold CC.gNeO
  cases q : isCU k x with
  | false =>
    rw [q] at e
    rw [isC_false dx q]
    exact x_gNe dx dy ev nd e
  | true =>
    rw [q] at e
    rw [dx.isC' q]
    dsimp only at e ⊢
    cases q2 : isCU k y with
    | false => rw [q2] at e; cases e
    | true =>
      rw [q2] at e
      rw [dy.isC' q2]
      dsimp only at e ⊢
      split at e
      · rename_i hb
        rw [Bool.and_eq_true] at hb
        -- all that is one's own is lent
        have l1 : D (rd p s) E (fun n => rd p s n ≠ none ∧ E n) (bor x) wx [] := (dx.noB hb.1).bor fun a m => ⟨dx.alive a m, dx.own a m⟩
        have l2 : D (rd p s) E (fun n => rd p s n ≠ none ∧ E n) (bor y) wy [] := (dy.noB hb.2).bor fun a m => ⟨dy.alive a m, dy.own a m⟩
        have h := hF (CC.mat p s) [bor x, bor y] [wx, wy] E (fun n => rd p s n ≠ none ∧ E n) (fun n => rd p s n ≠ none ∧ E n) [] (by
          rw [mat_fun]
          exact .cons (F := []) l1 (.cons (F := []) l2 .nil)) List.nodup_nil no (by rw [mat_fun]; exact ev) (fun n h => h) (by rw [mat_fun]; exact fun n h => h)
        rw [mat_fun] at h
        split at e
        · rename_i b o e3
          cases e
          rw [e3] at h
          obtain ⟨w, s', E', F', Fo, e4, k, ev', d2, _⟩ := h
          obtain rfl := d2.is_bl
          refine ⟨.bl (!b), CC.mrg p s s', [], ?_, ?_, ?_, d_bl, List.nodup_nil, no⟩
          · unfold CC.callF
            rw [e4]
          · rw [mrg_fun]
            intro n ob hn
            by_cases q : E n
            · rw [(k.kp n ⟨by rw [hn]; simp, q⟩).1]; exact hn
            · exact (k.sh n ob hn q).1
          · rw [mrg_fun]
            intro n hn
            cases q : rd p s n with
            | none => rfl
            | some ob => exact absurd hn (k.al n (by rw [q]; simp))
        · cases e
      · cases e
end CV
set_option Elab.async false
set_option linter.all false
set_option maxRecDepth 100000
/-! CVSort: sorted, over values -/
namespace CV
open PySem PySem.Spec PyProof.Rows L2
open CC (W Ob S Hh Lo R RS rd wr al nxt srtB insB lexL ndI Rl2)
def tkIU : U → Option (List Int)
  | .tup (.int i :: r) => (match isIntsU r with | some ns => some (i :: ns) | none => none)
  | _ => none
def isSimU : U → Bool
  | .int _ => true
  | .lst _ _ => true
  | .frz _ => true
  | .dct _ _ => true
  | .dtt _ _ => true
  | .ins _ _ _ => true
  | _ => false
def tk1U : U → Option Int
  | .tup (.int i :: r) => if r.all isSimU = true then some i else none
  | _ => none
def kIU (w : U) : List Int := (tkIU w).getD []
def k1U (w : U) : List Int := [(tk1U w).getD 0]
def sortU (us : List U) : Option (List U) := match isIntsU us with
  | some ns => some ((srtB (fun i => [i]) ns).map U.int)
  | none => if us.all (fun w => (tkIU w).isSome) = true then some (srtB kIU us)
    else if us.all (fun w => (tk1U w).isSome) = true ∧ ndI (us.map fun w => (tk1U w).getD 0) = true then some (srtB k1U us) else none
def fSort (xs : List U) : Option U := match xs with
  | [u] => (match lfU u with
    | some us => if us.all noO && us.all noB then (match sortU us with | some vs => some (.lst .o vs) | none => none) else none
    | none => none)
  | _ => none
section
variable {p : Hh} {s : S} {c : Cf} {E B : Pr} {u : U} {w : W} {us : List U} {ws : List W} {F T F0 T0 : List Nat} {n : Nat}
theorem ints0_eq : ∀ {us : List U} {ws : List W} {F T : List Nat}, D0s c us ws F T → CC.isInts ws = isIntsU us
  | _, _, _, _, .nil => rfl
  | _, _, _, _, .cons d r => by
    have ih := ints0_eq r
    cases d with
    | int i => unfold CC.isInts isIntsU; rw [ih]
    | non => rfl
    | bl _ => rfl
    | str _ => rfl
    | tup _ => rfl
    | own _ k _ => cases k <;> rfl
    | shr _ k _ => cases k <;> rfl
theorem sim0_eq : ∀ {us : List U} {ws : List W} {F T : List Nat}, D0s c us ws F T → ws.all CC.isSim = us.all isSimU
  | _, _, _, _, .nil => rfl
  | _, _, _, _, .cons d r => by
    have ih := sim0_eq r
    rw [List.all_cons, List.all_cons, ih]
    congr 1
    cases d with
    | own _ k _ => cases k <;> rfl
    | shr _ k _ => cases k <;> rfl
    | _ => rfl
theorem tkI_tup : ∀ {us : List U} {ws : List W} {F T : List Nat}, D0s c us ws F T → CC.tkI (.tup ws) = tkIU (.tup us)
  | _, _, _, _, .nil => rfl
  | _, _, _, _, .cons d r => by
    cases d with
    | int i =>
      show (match CC.isInts _ with | some ns => some (i :: ns) | none => none) = (match isIntsU _ with | some ns => some (i :: ns) | none => none)
      rw [ints0_eq r]
    | own _ k _ => cases k <;> rfl
    | shr _ k _ => cases k <;> rfl
    | _ => rfl
theorem tk1_tup : ∀ {us : List U} {ws : List W} {F T : List Nat}, D0s c us ws F T → CC.tk1 (.tup ws) = tk1U (.tup us)
  | _, _, _, _, .nil => rfl
  | _, _, _, _, .cons d r => by
    cases d with
    | int i =>
      show (if List.all _ CC.isSim = true then some i else none) = (if List.all _ isSimU = true then some i else none)
      rw [sim0_eq r]
    | own _ k _ => cases k <;> rfl
    | shr _ k _ => cases k <;> rfl
    | _ => rfl
theorem tkI_eq (d : D0 c u w F T) : CC.tkI w = tkIU u := by
  cases d with
  | tup r => exact tkI_tup r
  | own _ k _ => cases k <;> rfl
  | shr _ k _ => cases k <;> rfl
  | _ => rfl
theorem tk1_eq (d : D0 c u w F T) : CC.tk1 w = tk1U u := by
  cases d with
  | tup r => exact tk1_tup r
  | own _ k _ => cases k <;> rfl
  | shr _ k _ => cases k <;> rfl
  | _ => rfl
def Rd (c : Cf) (T : List Nat) (w : W) (u : U) : Prop := ∃ T', D0 c u w [] T' ∧ ∀ a ∈ T', a ∈ T
theorem rd_of : ∀ {us : List U} {ws : List W} {F T T0 : List Nat}, D0s c us ws F T → F = [] → (∀ a ∈ T, a ∈ T0) → Rl2 (Rd c T0) ws us
  | _, _, _, _, _, .nil, _, _ => .nil
  | _, _, _, _, _, .cons d r, e, h => by
    obtain ⟨rfl, e2⟩ := List.append_eq_nil_iff.mp e
    exact .cons ⟨_, d, fun a m => h a (List.mem_append_left _ m)⟩ (rd_of r e2 fun a m => h a (List.mem_append_right _ m))
theorem rd_to : ∀ {us : List U} {ws : List W} {T0 : List Nat}, Rl2 (Rd c T0) ws us → ∃ T, D0s c us ws [] T ∧ ∀ a ∈ T, a ∈ T0
  | _, _, _, .nil => ⟨[], .nil, no⟩
  | _, _, _, .cons ⟨T1, d, h⟩ r => by
    obtain ⟨T2, r2, h2⟩ := rd_to r
    exact ⟨T1 ++ T2, .cons (F := []) (F' := []) d r2, fun a m => (List.mem_append.mp m).elim (h a) (h2 a)⟩
theorem all_eq {f : W → Bool} {g : U → Bool} (h : ∀ {u w F T}, D0 c u w F T → f w = g u) : ∀ {us : List U} {ws : List W} {F T : List Nat}, D0s c us ws F T → ws.all f = us.all g
  | _, _, _, _, .nil => rfl
  | _, _, _, _, .cons d r => by rw [List.all_cons, List.all_cons, h d, all_eq h r]
theorem map_eq {α : Type} {f : W → α} {g : U → α} (h : ∀ {u w F T}, D0 c u w F T → f w = g u) : ∀ {us : List U} {ws : List W} {F T : List Nat}, D0s c us ws F T → ws.map f = us.map g
  | _, _, _, _, .nil => rfl
  | _, _, _, _, .cons d r => by rw [List.map_cons, List.map_cons, h d, map_eq h r]
theorem ints_d (c : Cf) : ∀ ns : List Int, D0s c (ns.map U.int) (ns.map W.int) [] []
  | [] => .nil
  | i :: ns => .cons (F := []) (T := []) (.int i) (ints_d c ns)
theorem sort_ok {vs : List U} (d : D0s c us ws [] T) (h : sortU us = some vs) : ∃ ws' T', CC.sortW ws = some ws' ∧ D0s c vs ws' [] T' ∧ ∀ a ∈ T', a ∈ T := by
  unfold sortU at h
  unfold CC.sortW
  rw [ints0_eq d]
  cases z : isIntsU us with
  | some ns =>
    rw [z] at h
    cases h
    exact ⟨_, [], rfl, ints_d c _, no⟩
  | none =>
    rw [z] at h
    dsimp only at h ⊢
    rw [all_eq (f := fun w => (CC.tkI w).isSome) (g := fun w => (tkIU w).isSome) (fun d => by rw [tkI_eq d]) d]
    split at h
    · rename_i hb
      cases h
      rw [if_pos hb]
      obtain ⟨T', d', t⟩ := rd_to (Rl2.srt (k := CC.kI) (k' := kIU) (fun w u ⟨_, d, _⟩ => by unfold CC.kI kIU; rw [tkI_eq d]) (rd_of d rfl fun a m => m))
      exact ⟨_, T', rfl, d', t⟩
    · rename_i hb
      rw [if_neg hb, all_eq (f := fun w => (CC.tk1 w).isSome) (g := fun w => (tk1U w).isSome) (fun d => by rw [tk1_eq d]) d, map_eq (f := fun w => (CC.tk1 w).getD 0) (g := fun w => (tk1U w).getD 0) (fun d => by rw [tk1_eq d]) d]
      split at h
      · rename_i hc
        cases h
        rw [if_pos hc]
        obtain ⟨T', d', t⟩ := rd_to (Rl2.srt (k := CC.k1) (k' := k1U) (fun w u ⟨_, d, _⟩ => by unfold CC.k1 k1U; rw [tk1_eq d]) (rd_of d rfl fun a m => m))
        exact ⟨_, T', rfl, d', t⟩
      · cases h
theorem D0s.noB_ : ∀ {us : List U} {ws : List W} {F T : List Nat}, D0s c us ws F T → us.all noB = true
  | _, _, _, _, .nil => rfl
  | _, _, _, _, .cons d r => by
    rw [List.all_cons, D0s.noB_ r, Bool.and_true]
    cases d with
    | own _ k _ => cases k <;> rfl
    | shr _ k _ => cases k <;> rfl
    | _ => rfl
theorem x_fSort : OpN CC.fSort fSort := by
  refine opN_one (fun xs h => ?_) fun {p s E B x u w Fx} d ev nd e => ?_
  · unfold fSort
    split
    · exact absurd rfl (h _)
    · rfl
  unfold fSort at e
  dsimp only at e
  cases q : lfU x with
  | none => rw [q] at e; cases e
  | some us =>
    rw [q] at e
    dsimp only at e
    split at e
    · rename_i hb
      rw [Bool.and_eq_true] at hb
      cases q2 : sortU us with
      | none => rw [q2] at e; cases e
      | some vs =>
        rw [q2] at e
        cases e
        obtain ⟨n, ws, F', rfl, h1, h2, h3, h4⟩ := lfU_ok d nd q
        obtain rfl := noO_nil h2 hb.1
        obtain ⟨T, d0, t1, t2⟩ := h2.to0 hb.2
        obtain ⟨ws', T', e1, d1, t3⟩ := sort_ok d0 q2
        have d2 : Ds (rd p s) E B vs ws' [] := d1.to no fun a m => t2 a (t3 a m)
        obtain ⟨d3, nd3⟩ := new_lst d2 d1.noB_ ev List.nodup_nil
        exact ⟨_, _, _, by unfold CC.fSort; dsimp only; rw [show CC.cellL p s (.ref n) = CC.cellItems p s n from rfl, h1]; dsimp only; rw [e1], ext_al, none_al, d3, nd3, fun a m => (List.mem_cons.mp m).elim (fun e => .inr (by rw [e]; exact rd_nxt)) fun m => by cases m⟩
    · cases e
end
end CV
set_option Elab.async false
set_option linter.all false
set_option maxRecDepth 100000
/-! CVAdd: a, b = x, y by a tuple, over values -/
namespace CV
open PySem PySem.Spec PyProof.Rows L2
open CC (W Ob S Hh Lo R RS rd wr al nxt)
section
variable {C : Ct}
theorem sim_weak {vm : VL → RSU} {m m' : Lo → S → RS} (h : SimS C vm m) (e : ∀ l s, m l s ≠ .bad → m' l s = m l s) : SimS C vm m' := fun s l vl E K B Fs r => by
  have q := h s l vl E K B Fs r
  cases z : vm vl with
  | bad => trivial
  | nx v =>
    rw [z] at q
    obtain ⟨l', s', E', Fs', e1, q2⟩ := q
    exact ⟨l', s', E', Fs', (e l s (by rw [e1]; exact fun z => by cases z)).trans e1, q2⟩
  | brk v =>
    rw [z] at q
    obtain ⟨l', s', E', Fs', e1, q2⟩ := q
    exact ⟨l', s', E', Fs', (e l s (by rw [e1]; exact fun z => by cases z)).trans e1, q2⟩
  | ct v =>
    rw [z] at q
    obtain ⟨l', s', E', Fs', e1, q2⟩ := q
    exact ⟨l', s', E', Fs', (e l s (by rw [e1]; exact fun z => by cases z)).trans e1, q2⟩
  | ret u v =>
    rw [z] at q
    obtain ⟨w, l', s', E', F, Fs', e1, q2⟩ := q
    exact ⟨w, l', s', E', F, Fs', (e l s (by rw [e1]; exact fun z => by cases z)).trans e1, q2⟩
  | exc k u v =>
    rw [z] at q
    obtain ⟨w, l', s', E', Fs', e1, q2⟩ := q
    exact ⟨w, l', s', E', Fs', (e l s (by rw [e1]; exact fun z => by cases z)).trans e1, q2⟩
theorem sim_part2 {i j : Nat} {g1 g2 : U → VL → Option VL} {a : VL → RU (List U)} {ma : Lo → S → R (List W)} (h1 : SimG C g1 (CC.gNm i)) (h2 : SimG C g2 (CC.gNm j)) (ha : SimA C true a ma) : SimS C (sPar2 g1 g2 a) (CC.sAsg (CC.gTupT 2 (CC.gsCons (CC.gNm i) (CC.gsCons (CC.gNm j) CC.gsNil))) (CC.eTup ma)) :=
  sim_weak (sim_par2 h1 h2 ha) fun l s h => by
    unfold CC.sPar2 at h ⊢
    unfold CC.sAsg CC.eTup
    cases z : ma l s with
    | bad => rw [z] at h; exact absurd rfl h
    | exc c w s1 => rfl
    | ok ws s1 =>
      rw [z] at h
      match ws, h with
      | [], h => exact absurd rfl h
      | [_], h => exact absurd rfl h
      | [x, y], h =>
        unfold CC.R.bind
        dsimp only
        rw [if_pos (show [x, y].length ≤ 1000000 by show 2 ≤ 1000000; decide)]
        rfl
      | _ :: _ :: _ :: _, h => exact absurd rfl h
theorem sim_part3 {i j n : Nat} {g1 g2 g3 : U → VL → Option VL} {a : VL → RU (List U)} {ma : Lo → S → R (List W)} (h1 : SimG C g1 (CC.gNm i)) (h2 : SimG C g2 (CC.gNm j)) (h3 : SimG C g3 (CC.gNm n)) (ha : SimA C true a ma) : SimS C (sPar3 g1 g2 g3 a) (CC.sAsg (CC.gTupT 3 (CC.gsCons (CC.gNm i) (CC.gsCons (CC.gNm j) (CC.gsCons (CC.gNm n) CC.gsNil)))) (CC.eTup ma)) :=
  sim_weak (sim_par3 h1 h2 h3 ha) fun l s h => by
    unfold CC.sPar3 at h ⊢
    unfold CC.sAsg CC.eTup
    cases z : ma l s with
    | bad => rw [z] at h; exact absurd rfl h
    | exc c w s1 => rfl
    | ok ws s1 =>
      rw [z] at h
      match ws, h with
      | [], h => exact absurd rfl h
      | [_], h => exact absurd rfl h
      | [_, _], h => exact absurd rfl h
      | [x, y, q], h =>
        unfold CC.R.bind
        dsimp only
        rw [if_pos (show [x, y, q].length ≤ 1000000 by show 3 ≤ 1000000; decide)]
        rfl
      | _ :: _ :: _ :: _ :: _, h => exact absurd rfl h
end
end CV
set_option Elab.async false
set_option linter.all false
set_option maxRecDepth 100000
/-! CVNest: xs[i].append(v), over values -/
namespace CV
open PySem PySem.Spec PyProof.Rows L2
open CC (W Ob S Hh Lo R RS rd wr al nxt)
def eMutA (i : Nat) (a b : VL → RU U) : VL → RU U := fun v => match v[i]? with
  | some (some (.lst .o us)) => (match a v with
    | .ok (.int j) _ => (match b v with
      | .ok u _ => (match ixN us.length j with
        | some k => (match us[k]? with
          | some (.lst .o xs) => if xs.length < 1000000 ∧ noO u = true ∧ noB u = true then .ok .non (v.set i (some (.lst .o (us.set k (.lst .o (xs ++ [u])))))) else .bad
          | _ => .bad)
        | none => .bad)
      | _ => .bad)
    | _ => .bad)
  | _ => .bad
theorem D0s.nest {c : Cf} {u : U} {w : W} {Tu : List Nat} {xs : List U} : ∀ {us : List U} {ws : List W} {F T : List Nat} {k : Nat}, D0s c us ws F T → F.Nodup → us[k]? = some (.lst .o xs) →
    ∃ m wsx, ws[k]? = some (.ref m) ∧ c m = some (.lst wsx) ∧ xs.length = wsx.length ∧ m ∈ F ∧ ∀ c' : Cf, (∀ a, a ≠ m → c' a = c a) → c' m = some (.lst (wsx ++ [w])) → m ∉ T → D0 c' u w [] Tu → ∃ T', D0s c' (us.set k (.lst .o (xs ++ [u]))) ws F T' ∧ ∀ a ∈ T', a ∈ T ∨ a ∈ Tu
  | _, _, _, _, k, .nil, _, h => by simp at h
  | _, _, _, _, 0, @D0s.cons _ x w0 us ws Fa Ta Fb Tb d r, nd, h => by
    simp at h
    subst h
    have hn := List.nodup_append.mp nd
    cases d with
    | shr e kk rr => cases kk
    | own e kk rr =>
      cases kk
      rename_i n wsx F0
      refine ⟨n, wsx, rfl, e, rr.len, by simp, fun c' h1 h2 h3 hu => ?_⟩
      have nf := (List.nodup_cons.mp hn.1).1
      have d1 : D0s c' xs wsx F0 Ta := rr.mono fun a m => h1 a fun z => by
        subst z
        exact m.elim nf fun m => h3 (List.mem_append_left _ m)
      have d2 : D0s c' us ws Fb Tb := r.mono fun a m => h1 a fun z => by
        subst z
        exact m.elim (fun m => hn.2.2 _ (List.mem_cons_self ..) _ m rfl) fun m => h3 (List.mem_append_right _ m)
      have d3 : D0s c' (xs ++ [u]) (wsx ++ [w]) F0 (Ta ++ Tu) := by
        have := d1.app (.one hu)
        rw [List.append_nil] at this
        exact this
      refine ⟨(Ta ++ Tu) ++ Tb, .cons (F := n :: F0) (.own h2 .lst d3) d2, fun a m => ?_⟩
      simp only [List.mem_append] at m ⊢
      rcases m with (m | m) | m <;> simp [m]
  | _, _, _, _, k + 1, @D0s.cons _ x w0 us ws Fa Ta Fb Tb d r, nd, h => by
    have hn := List.nodup_append.mp nd
    obtain ⟨m, wsx, e1, e2, e3, e4, q⟩ := D0s.nest (u := u) (w := w) (Tu := Tu) (k := k) r hn.2.1 (by simpa using h)
    refine ⟨m, wsx, by simpa using e1, e2, e3, List.mem_append_right _ e4, fun c' h1 h2 h3 hu => ?_⟩
    obtain ⟨T', d2, t⟩ := q c' h1 h2 (fun z => h3 (List.mem_append_right _ z)) hu
    have d1 : D0 c' x w0 Fa Ta := d.mono fun a mm => h1 a fun z => by
      subst z
      exact mm.elim (fun mm => hn.2.2 _ mm _ e4 rfl) fun mm => h3 (List.mem_append_left _ mm)
    refine ⟨Ta ++ T', .cons d1 d2, fun a mm => ?_⟩
    rcases List.mem_append.mp mm with mm | mm
    · exact .inl (List.mem_append_left _ mm)
    · exact (t a mm).imp (List.mem_append_right _) id
section
variable {C : Ct}
theorem sim_mutA {i : Nat} {a b : VL → RU U} {ma mb : Lo → S → R W} (ha : SimE C false a ma) (hb : SimE C false b mb) : SimE C true (eMutA i a b) (CC.eBm CC.isLst CC.fAppend C.p (CC.eIx C.p (CC.eVar i) ma) (CC.aCons mb CC.aNil)) := fun s l vl E K B Fs r => by
  unfold eMutA
  split
  · rename_i us ho
    obtain ⟨w0, hw, d0⟩ := r.has i _ ho
    have oi := (r.own rfl).1 i
    obtain ⟨n0, ob, us', ws, F0, T0, rfl, eF, ow⟩ := d0.toOwn oi.1 rfl
    obtain ⟨rfl, rfl⟩ := sh_lst ow.sh
    cases ea : a vl with
    | bad => trivial
    | exc _ _ _ => trivial
    | ok uj v1 =>
      cases uj with
      | int j =>
        dsimp only
        cases eb : b vl with
        | bad => trivial
        | exc _ _ _ => trivial
        | ok u v2 =>
          dsimp only
          cases ek : ixN us'.length j with
          | none => trivial
          | some k =>
            dsimp only
            split
            · rename_i xs hk
              split
              · rename_i hc
                obtain ⟨hc1, hc2, hc3⟩ := hc
                have h := ha s l vl E _ _ Fs r.lend
                rw [ea] at h
                obtain ⟨w1, s2, E2, F1, Fs2, e2, k2, r2, d1, f1⟩ := h
                obtain rfl := d1.is_int
                have rb := r.back k2 r2.ev
                have h := hb s2 l vl E2 _ _ Fs rb.lend
                rw [eb] at h
                obtain ⟨w3, s3, E3, F3, Fs3, e3, k3, r3, d3, f3⟩ := h
                have rc := rb.back k3 r3.ev
                have d3' : D (rd C.p s3) E3 B u w3 F3 := d3.noB hc3
                obtain rfl := d3.noO hc2
                have mF : ∀ n, n ∈ Fs i → rd C.p s2 n = rd C.p s n ∧ rd C.p s3 n = rd C.p s n := fun n m => by
                  have q1 := (k2.kp n (.inr ⟨i, m⟩)).1
                  exact ⟨q1, ((k3.kp n (.inr ⟨i, m⟩)).1).trans q1⟩
                have ndF : F0.Nodup := (List.nodup_cons.mp ow.nd).2
                -- at the last state
                obtain ⟨w0', hw', dc⟩ := rc.has i _ ho
                rw [hw] at hw'
                cases hw'
                obtain ⟨n1, ob1, us1, ws1, F1', T1', en, eF1, oc⟩ := dc.toOwn oi.1 rfl
                cases en
                rw [eF] at eF1
                cases eF1
                obtain ⟨rfl, rfl⟩ := sh_lst oc.sh
                have m0 : n0 ∈ Fs i := by rw [eF]; exact List.mem_cons_self ..
                have ew : ws1 = ws := by
                  have q1 := oc.at_
                  rw [(mF n0 m0).2, ow.at_] at q1
                  cases q1; rfl
                subst ew
                obtain ⟨Tu, d4, hd4⟩ := d3'.to0 hc3
                obtain ⟨m, wsx, g1, g2, g3, g4, g5⟩ := oc.ds.nest (u := u) (w := w3) (Tu := Tu) ndF hk
                have mi : m ∈ Fs i := by rw [eF]; exact List.mem_cons_of_mem _ g4
                have em : E3 m := oc.own m (List.mem_cons_of_mem _ g4)
                have na : rd C.p s3 m ≠ none := by rw [g2]; simp
                have nk : ¬ K m := oi.2 m mi
                have ne := wr_ne (p := C.p) (s := s3) (n := m) (o := .lst (wsx ++ [w3])) na
                have at_ := wr_at (p := C.p) (s := s3) (n := m) (o := .lst (wsx ++ [w3])) na
                have mT : m ∉ T1' := fun z => oc.shr m z em
                have n0m : n0 ≠ m := fun z => (List.nodup_cons.mp ow.nd).1 (z ▸ g4)
                have d5 : D0 (rd C.p (wr C.p s3 m (.lst (wsx ++ [w3])))) u w3 [] Tu := d4.mono fun a z => ne a fun q => by
                  subst q
                  exact z.elim (fun z => by cases z) fun z => hd4.2 _ z em
                obtain ⟨T', d6, t6⟩ := g5 _ ne at_ mT d5
                have hT' : ∀ a ∈ T', ¬ E3 a := fun a z => (t6 a z).elim (oc.shr a) (hd4.2 a)
                -- what the cells' words do
                have q2 : rd C.p s2 m = some (.lst wsx) := by rw [(mF m mi).1, ← (mF m mi).2]; exact g2
                have run : CC.eBm CC.isLst CC.fAppend C.p (CC.eIx C.p (CC.eVar i) ma) (CC.aCons mb CC.aNil) l s = .ok .non (wr C.p s3 m (.lst (wsx ++ [w3]))) := by
                  unfold CC.eBm CC.eIx
                  rw [var_ok hw]
                  unfold CC.R.bind
                  dsimp only
                  rw [e2]
                  dsimp only
                  have gx : CC.gIx C.p (.ref n0) (.int j) s2 = some (.ref m, s2) := by
                    unfold CC.gIx
                    dsimp only
                    unfold CC.seqItems CC.cellItems
                    dsimp only
                    rw [(mF n0 m0).1, ow.at_]
                    dsimp only
                    unfold atI
                    rw [← ow.ds.len, ek]
                    rw [show (some k).bind (fun j => ws1[j]?) = some (W.ref m) from g1]
                  rw [gx]
                  unfold CC.R.ofO
                  dsimp only
                  rw [if_pos (by unfold CC.isLst CC.cellL CC.cellItems; dsimp only; rw [q2])]
                  unfold CC.aCons CC.aNil CC.R.bind
                  rw [e3]
                  dsimp only
                  unfold CC.fAppend
                  dsimp only
                  rw [g2]
                  dsimp only
                  rw [if_pos (by rw [← g3]; exact hc1)]
                rw [run]
                have r0 := rc.put i none (.ref n0) l rfl (fun _ _ => rfl) (fun u z => (nomatch z)) rc.mpk List.nodup_nil no
                have n0' : ∀ j, m ∉ upF Fs i [] j := fun j h => by
                  by_cases e : j = i
                  · rw [e, upF_same] at h; cases h
                  · rw [upF_ne e] at h
                    exact e ((rc.own rfl).2 j i m h mi)
                have r1 := r0.upd ne (by rw [at_]; simp) em nk n0'
                have r5 := r1.put i (some (.lst .o (us1.set k (.lst .o (xs ++ [u]))))) (.ref n0) l rfl (fun _ _ => rfl) (fun u z _ => by
                  cases z
                  exact ⟨hw, T', [], .z (.own (by rw [ne n0 n0m]; exact oc.at_) .lst d6), oc.own, hT', no⟩) rc.mpk oc.nd (fun a z => by
                  have za : a ∈ Fs i := by rw [eF]; exact z
                  have al : rd C.p (wr C.p s3 m (.lst (wsx ++ [w3]))) a ≠ none := by
                    by_cases e : a = m
                    · rw [e, at_]; simp
                    · rw [ne a e]; exact (rc.ex i a za).1
                  exact ⟨al, oc.own a z, fun _ => ⟨oi.2 a za, fun j e h => by rw [upF_ne e] at h; exact e ((rc.own rfl).2 j i a h za)⟩, fun z => (nomatch z)⟩)
                rw [List.set_set] at r5
                have eU : upF (upF Fs i []) i (n0 :: F0) = upF Fs i (n0 :: F0) := funext fun j => by
                  by_cases e : j = i
                  · rw [e, upF_same, upF_same]
                  · rw [upF_ne e, upF_ne e, upF_ne e]
                rw [eU] at r5
                exact ⟨.non, _, E3, [], _, rfl, ((k2.weak fun n h => .inl h).trans (k3.weak fun n h => .inl h)).trans (Keep.upd ne (by rw [at_]; simp) em nk), r5, d_non, .nil⟩
              · trivial
            · trivial
      | _ => trivial
  · trivial
end
end CV
set_option Elab.async false
set_option linter.all false
set_option maxRecDepth 100000
/-! CVDispT: {t: v} with a tuple t, sorted of such a dict, over values -/
namespace CV
open PySem PySem.Spec PyProof.Rows L2
open CC (W Ob S Hh Lo R RS rd wr al nxt srtB insB lexL ndI Rl2)
def eDis1T (mk mv : VL → RU U) : VL → RU U := fun v => (mk v).bind fun k v1 => (mv v1).bind fun u v2 => match keysU k with
  | some k => if noB u then .ok (.dtt .o [(k, u)]) v2 else .bad
  | none => .bad
section
variable {C : Ct} {md : Bool} {c c1 : Cf} {E E1 K K1 B : Pr} {l : Lo} {vl : VL} {s : S} {Fs : Nat → List Nat}
theorem sim_dis1T {a b : VL → RU U} {ma mb : Lo → S → R W} (ha : SimE C md a ma) (hb : SimE C md b mb) : SimE C md (eDis1T a b) (CC.eDis1T C.p ma mb) := fun s l vl E K B Fs r => by
  -- the dict stands first
  generalize hs0 : al s (.dtt []) = s0
  have x0 : Ext (rd C.p s) (rd C.p s0) := by rw [← hs0]; exact ext_al
  have n0 : ∀ n, rd C.p s0 n = none → rd C.p s n = none := by rw [← hs0]; exact none_al
  have a0 : rd C.p s0 (nxt C.p s) = some (.dtt []) := by rw [← hs0]; exact rd_new
  have en : E (nxt C.p s) := r.ev _ rd_nxt
  have f0 : Fr [nxt C.p s] K Fs := ⟨by simp, fun a m => by rw [List.mem_singleton.mp m]; exact ⟨fun h => (r.ka _ h).1 rd_nxt, fun i h => (r.ex i _ h).1 rd_nxt⟩⟩
  have r0 := (r.ext x0 n0).grow f0 fun a m => by rw [List.mem_singleton.mp m]; exact ⟨by rw [a0]; simp, en⟩
  have e0 : CC.eDis1T C.p ma mb l s = (ma l s0).bind fun kw s1 => (mb l s1).bind fun w s2 => CC.fillDT C.p (nxt C.p s) kw w s2 := by unfold CC.eDis1T; rw [hs0]
  rw [e0]
  have k0 : Keep (rd C.p s) E K (rd C.p s0) E := x0.keep r.ka
  refine (ha s0 l vl E _ B Fs r0).bindK k0 (fun n h => .inl h) r.bk fun x v1 wx s1 E1 F1 Fs1 k1 r1 d1 f1 => ?_
  have k01 := k0.trans (k1.weak fun n h => .inl h)
  refine (hb s1 l v1 E1 _ B Fs1 (r1.grow f1 (rmD.al d1))).bindK k01 (fun n h => .inl (.inl h)) r.bk fun y v2 wy s2 E2 F2 Fs2 k2 r2 d2 f2 => ?_
  have k02 := k01.trans (k2.weak fun n h => .inl (.inl h))
  cases q : keysU x with
  | none => trivial
  | some k =>
    dsimp only
    split
    · rename_i hb2
      have mem0 : kU K [nxt C.p s] (nxt C.p s) := .inr (by simp)
      have a2 : rd C.p s2 (nxt C.p s) = some (.dtt []) := by rw [(k2.kp _ (.inl mem0)).1, (k1.kp _ mem0).1, a0]
      have e2 : E2 (nxt C.p s) := (k2.kp _ (.inl mem0)).2 ((k1.kp _ mem0).2 en)
      have r2' := r2.weak (K := K) (fun n h => .inl (.inl h)) r.bk
      have nk := (f0.2 (nxt C.p s) (by simp)).1
      have nfs : ∀ i, nxt C.p s ∉ Fs2 i := fun i => (r2.weak (K := kU K [nxt C.p s]) (fun n h => .inl h) (fun n h => .inl (r.bk n h))).sep r.bk (by simp) nk i
      have nf2 : nxt C.p s ∉ F2 := fun m => (f2.2 _ m).1 (.inl mem0)
      have na : rd C.p s2 (nxt C.p s) ≠ none := by rw [a2]; simp
      have ne := wr_ne (p := C.p) (s := s2) (n := nxt C.p s) (o := .dtt [(k, wy)]) na
      have at3 := wr_at (p := C.p) (s := s2) (n := nxt C.p s) (o := .dtt [(k, wy)]) na
      obtain ⟨T, d0, t1, t2⟩ := (d2.upd ne e2 (fun b => nk (r.bk _ b)) nf2).to0 hb2
      have e3 : CC.fillDT C.p (nxt C.p s) wx wy s2 = .ok (.ref (nxt C.p s)) (wr C.p s2 (nxt C.p s) (.dtt [(k, wy)])) := by
        unfold CC.fillDT
        rw [a2, keys_ok d1 q]
      rw [e3]
      refine ⟨_, _, E2, nxt C.p s :: F2, Fs2, rfl, k02.trans (Keep.upd ne (by rw [at3]; simp) e2 nk), r2'.upd ne (by rw [at3]; simp) e2 nk nfs, ⟨T, [], .z ?_, fun a m => ?_, t2, no⟩, List.nodup_cons.mpr ⟨nf2, f2.1⟩, fun a m => ?_⟩
      · have := D0.own at3 (.dtt (kvs := [(k, y)]) (kws := [(k, wy)]) rfl) (.cons d0 .nil)
        simp only [List.append_nil] at this
        exact this
      · rcases List.mem_cons.mp m with rfl | m
        · exact e2
        · exact t1 a m
      · rcases List.mem_cons.mp m with rfl | m
        · exact ⟨nk, nfs⟩
        · exact ⟨fun h => (f2.2 a m).1 (.inl (.inl h)), (f2.2 a m).2⟩
    · trivial
end
def fSortA (xs : List U) : Option U := match xs with
  | [.dtt _ kvs] => (match CC.keysI kvs with | some ns => some (.lst .o ((srtB (fun l => l) ns).map fun l => .tup (l.map U.int))) | none => none)
  | xs => fSort xs
theorem keysI_eq {α β : Type} : ∀ {kvs : List (List Key × α)} {kws : List (List Key × β)}, kvs.map (·.1) = kws.map (·.1) → CC.keysI kws = CC.keysI kvs
  | [], [], _ => rfl
  | [], _ :: _, h => by cases h
  | _ :: _, [], h => by cases h
  | (k, x) :: r, (k', y) :: t, h => by
    rw [List.map_cons, List.map_cons, List.cons.injEq] at h
    unfold CC.keysI
    rw [keysI_eq h.2, show k' = k from h.1.symm]
theorem tups_d (c : Cf) : ∀ ns : List (List Int), D0s c (ns.map fun l => .tup (l.map U.int)) (ns.map fun l => .tup (l.map W.int)) [] []
  | [] => .nil
  | i :: ns => .cons (F := []) (T := []) (.tup (ints_d c i)) (tups_d c ns)
theorem x_fSortA : OpN CC.fSortA fSortA := by
  refine opN_one (fun xs h => ?_) fun {p s E B x u w Fx} d ev nd e => ?_
  · unfold fSortA
    split
    · exact absurd rfl (h _)
    · unfold fSort
      split
      · exact absurd rfl (h _)
      · rfl
  unfold fSortA at e
  split at e
  · rename_i z kvs q
    cases q
    cases q2 : CC.keysI kvs with
    | none => rw [q2] at e; cases e
    | some ns =>
      rw [q2] at e
      cases e
      obtain ⟨n, kws, F0, T0, rfl, h1, h2, _⟩ := d.dtt
      have d1 := tups_d (rd p s) (srtB (fun l => l) ns)
      obtain ⟨d3, nd3⟩ := new_lst (d1.to (B := B) (E := E) no no) d1.noB_ ev List.nodup_nil
      refine ⟨_, _, _, ?_, ext_al, none_al, d3, nd3, fun a m => (List.mem_cons.mp m).elim (fun e => .inr (by rw [e]; exact rd_nxt)) fun m => by cases m⟩
      unfold CC.fSortA
      dsimp only
      rw [h1]
      dsimp only
      rw [keysI_eq h2, q2]
  · have key : CC.fSortA p [w] s = CC.fSort p [w] s := by
      unfold fSort at e
      dsimp only at e
      cases x with
      | lst z us =>
        obtain ⟨n, ws, F0, T0, rfl, h1, _⟩ := d.lst
        unfold CC.fSortA
        dsimp only
        rw [h1]
      | frz ns =>
        obtain ⟨rfl, n, rfl, h1, _⟩ := d.frz_
        unfold CC.fSortA
        dsimp only
        rw [h1]
      | _ => cases e
    rw [key]
    have dd : Ds (rd p s) E B [x] [w] (Fx ++ []) := .cons d .nil
    have nd' : (Fx ++ []).Nodup := by rw [List.append_nil]; exact nd
    obtain ⟨w', s', F, h1, h2, h3, h4, h5, h6⟩ := x_fSort dd ev nd' e
    exact ⟨w', s', F, h1, h2, h3, h4, h5, fun a m => by have := h6 a m; rwa [List.append_nil] at this⟩
end CV
set_option Elab.async false
set_option linter.all false
set_option maxRecDepth 100000
/-! CVForApp: for x in xs: x.append(None), xs a list of lists of one's own -/
namespace CV
open PySem PySem.Spec PyProof.Rows L2
open CC (W Ob S Hh Lo R RS rd wr al nxt)
def appAll : List U → Option (List U)
  | [] => some []
  | .lst .o xs :: r => if xs.length < 1000000 then (match appAll r with | some q => some (.lst .o (xs ++ [.non]) :: q) | none => none) else none
  | _ => none
def sForApp (i j : Nat) : VL → RSU := fun v => match v[i]? with
  | some (some (.lst .o us)) => (match appAll us with | some us' => if j < v.length then .nx ((v.set i (some (.lst .o us'))).set j none) else .bad | none => .bad)
  | _ => .bad
section
variable {C : Ct}
/-- one inner list written -/
theorem SL.nest {s : S} {l : Lo} {vl : VL} {E K B : Pr} {Fs : Nat → List Nat} {i k : Nat} {us xs : List U} (r : SL C true (rd C.p s) E K B vl l Fs) (ho : vl[i]? = some (some (.lst .o us))) (hk : us[k]? = some (.lst .o xs)) :
    ∃ (n0 m : Nat) (ws wsx : List W), l[i]? = some (some (.ref n0)) ∧ rd C.p s n0 = some (.lst ws) ∧ ws.length = us.length ∧ ws[k]? = some (.ref m) ∧ rd C.p s m = some (.lst wsx) ∧ wsx.length = xs.length ∧ m ≠ n0 ∧
      Keep (rd C.p s) E K (rd C.p (wr C.p s m (.lst (wsx ++ [.non])))) E ∧ SL C true (rd C.p (wr C.p s m (.lst (wsx ++ [.non])))) E K B (vl.set i (some (.lst .o (us.set k (.lst .o (xs ++ [.non])))))) l (upF Fs i (Fs i)) ∧
      rd C.p (wr C.p s m (.lst (wsx ++ [.non]))) n0 = some (.lst ws) := by
  obtain ⟨w0, hw, d0⟩ := r.has i _ ho
  have oi := (r.own rfl).1 i
  obtain ⟨n0, ob, us', ws, F0, T0, rfl, eF, ow⟩ := d0.toOwn oi.1 rfl
  obtain ⟨rfl, rfl⟩ := sh_lst ow.sh
  have ndF : F0.Nodup := (List.nodup_cons.mp ow.nd).2
  obtain ⟨m, wsx, g1, g2, g3, g4, g5⟩ := ow.ds.nest (u := .non) (w := .non) (Tu := []) ndF hk
  have mi : m ∈ Fs i := by rw [eF]; exact List.mem_cons_of_mem _ g4
  have em : E m := ow.own m (List.mem_cons_of_mem _ g4)
  have na : rd C.p s m ≠ none := by rw [g2]; simp
  have nk : ¬ K m := oi.2 m mi
  have ne := wr_ne (p := C.p) (s := s) (n := m) (o := .lst (wsx ++ [.non])) na
  have at_ := wr_at (p := C.p) (s := s) (n := m) (o := .lst (wsx ++ [.non])) na
  have mT : m ∉ T0 := fun z => ow.shr m z em
  have n0m : n0 ≠ m := fun z => (List.nodup_cons.mp ow.nd).1 (z ▸ g4)
  obtain ⟨T', d6, t6⟩ := g5 _ ne at_ mT .non
  have hT' : ∀ a ∈ T', ¬ E a := fun a z => (t6 a z).elim (ow.shr a) fun z => by cases z
  have r0 := r.put i none (.ref n0) l rfl (fun _ _ => rfl) (fun u z => (nomatch z)) r.mpk List.nodup_nil no
  have n0' : ∀ j, m ∉ upF Fs i [] j := fun j h => by
    by_cases e : j = i
    · rw [e, upF_same] at h; cases h
    · rw [upF_ne e] at h
      exact e ((r.own rfl).2 j i m h mi)
  have r1 := r0.upd ne (by rw [at_]; simp) em nk n0'
  have r5 := r1.put i (some (.lst .o (us'.set k (.lst .o (xs ++ [.non]))))) (.ref n0) l rfl (fun _ _ => rfl) (fun u z _ => by
    cases z
    exact ⟨hw, T', [], .z (.own (by rw [ne n0 n0m]; exact ow.at_) .lst d6), ow.own, hT', no⟩) r.mpk ow.nd (fun a z => by
    have za : a ∈ Fs i := by rw [eF]; exact z
    have al : rd C.p (wr C.p s m (.lst (wsx ++ [.non]))) a ≠ none := by
      by_cases e : a = m
      · rw [e, at_]; simp
      · rw [ne a e]; exact (r.ex i a za).1
    exact ⟨al, ow.own a z, fun _ => ⟨oi.2 a za, fun j e h => by rw [upF_ne e] at h; exact e ((r.own rfl).2 j i a h za)⟩, fun z => (nomatch z)⟩)
  rw [List.set_set] at r5
  have eU : upF (upF Fs i []) i (n0 :: F0) = upF Fs i (Fs i) := funext fun j => by
    by_cases e : j = i
    · rw [e, upF_same, upF_same, eF]
    · rw [upF_ne e, upF_ne e, upF_ne e]
  rw [eU] at r5
  exact ⟨n0, m, ws, wsx, hw, ow.at_, ow.ds.len.symm, g1, g2, g3.symm, fun z => n0m z.symm, Keep.upd ne (by rw [at_]; simp) em nk, r5, by rw [ne n0 n0m]; exact ow.at_⟩
theorem set_none {v : VL} {j : Nat} (h : v[j]? = some none) : v.set j none = v := by
  apply List.ext_getElem?
  intro k
  by_cases e : k = j
  · subst e
    rw [h, List.getElem?_set_self (List.getElem?_eq_some_iff.mp h).1]
  · rw [List.getElem?_set_ne (Ne.symm e)]
theorem set_at {v : VL} {i : Nat} {u : Option U} (h : v[i]? = some u) : v.set i u = v := by
  apply List.ext_getElem?
  intro k
  by_cases e : k = i
  · subst e
    rw [h, List.getElem?_set_self (List.getElem?_eq_some_iff.mp h).1]
  · rw [List.getElem?_set_ne (Ne.symm e)]
theorem forApp_ok {i j : Nat} (hij : i ≠ j) (hm : C.mp = none ∨ j ≠ C.mi) {K B : Pr} {n0 : Nat} : ∀ (rest don rest' : List U) (s : S) (l : Lo) (v : VL) (E : Pr) (Fs : Nat → List Nat), appAll rest = some rest' → SL C true (rd C.p s) E K B v l Fs → v[i]? = some (some (.lst .o (don ++ rest))) → v[j]? = some none → l[i]? = some (some (.ref n0)) →
    ∃ l' s' Fs', CC.forI C.p (CC.gNm j) (CC.sEx (CC.eBm CC.isLst CC.fAppend C.p (CC.eVar j) (CC.aCons (CC.eC .non) CC.aNil))) (.lst n0) (rest.length + 1) don.length l s = .nx l' s' ∧ Keep (rd C.p s) E K (rd C.p s') E ∧ SL C true (rd C.p s') E K B (v.set i (some (.lst .o (don ++ rest')))) l' Fs'
  | [], don, rest', s, l, v, E, Fs, ha, r, hi, hj, hl => by
    cases ha
    obtain ⟨w0, hw, d0⟩ := r.has i _ hi
    rw [hl] at hw
    cases hw
    obtain ⟨n1, ws, F0, T0, e1, e2, e3, _⟩ := d0.lst
    cases e1
    refine ⟨l, s, Fs, ?_, .rfl', by rw [set_at hi]; exact r⟩
    have nx : CC.ItD.next C.p s (.lst n0) don.length = some none := by
      unfold CC.ItD.next CC.cellItems
      dsimp only
      rw [e2]
      dsimp only [Option.map]
      rw [List.getElem?_eq_none (by rw [← e3.len]; simp)]
    unfold CC.forI
    rw [nx]
  | x :: rest, don, rest', s, l, v, E, Fs, ha, r, hi, hj, hl => by
    cases x with
    | lst z xs =>
      cases z with
      | o =>
        unfold appAll at ha
        split at ha
        · rename_i hx
          cases q : appAll rest with
          | none => rw [q] at ha; cases ha
          | some rq =>
            rw [q] at ha
            cases ha
            have hk : (don ++ .lst .o xs :: rest)[don.length]? = some (.lst .o xs) := by simp
            obtain ⟨n1, m, ws, wsx, h1, h2, h3, h4, h5, h6, h7, k8, r8, h9⟩ := r.nest hi hk
            rw [hl] at h1
            cases h1
            have nx : CC.ItD.next C.p s (.lst n0) don.length = some (some (.ref m)) := by
              unfold CC.ItD.next CC.cellItems
              dsimp only
              rw [h2]
              dsimp only [Option.map]
              rw [h4]
            have jl : j < l.length := by rw [← r.len]; exact (List.getElem?_eq_some_iff.mp hj).1
            have body : CC.sEx (CC.eBm CC.isLst CC.fAppend C.p (CC.eVar j) (CC.aCons (CC.eC .non) CC.aNil)) (l.set j (some (.ref m))) s = .nx (l.set j (some (.ref m))) (wr C.p s m (.lst (wsx ++ [.non]))) := by
              unfold CC.sEx CC.eBm
              rw [var_ok (List.getElem?_set_self jl)]
              unfold CC.R.bind
              dsimp only
              rw [if_pos (by unfold CC.isLst CC.cellL CC.cellItems; dsimp only; rw [h5])]
              have fa : CC.fAppend C.p (.ref m) [.non] s = some (.non, wr C.p s m (.lst (wsx ++ [.non]))) := by
                unfold CC.fAppend
                dsimp only
                rw [h5]
                dsimp only
                rw [if_pos (by rw [h6]; exact hx)]
              show (match (CC.R.ofO (CC.fAppend C.p (.ref m) [.non] s) : R W) with | .ok _ s1 => RS.nx _ s1 | .exc c w s1 => .exc c w _ s1 | .bad => .bad) = _
              rw [fa]
              rfl
            -- the slot of the name
            have r9 := r8.put j none (.ref m) (l.set j (some (.ref m))) (by simp) (fun k e => List.getElem?_set_ne (Ne.symm e)) (fun u z => (nomatch z)) (fun w' e => by
              rcases hm with hm | hm
              · rw [hm] at e; cases e
              · rw [List.getElem?_set_ne hm]; exact r8.mpk w' e) List.nodup_nil no
            have es : (don ++ .lst .o xs :: rest).set don.length (.lst .o (xs ++ [.non])) = (don ++ [.lst .o (xs ++ [.non])]) ++ rest := by
              rw [List.set_append_right _ _ (Nat.le_refl _), Nat.sub_self, List.set_cons_zero, List.append_assoc]; rfl
            rw [es] at r9
            have il : i < v.length := (List.getElem?_eq_some_iff.mp hi).1
            obtain ⟨l', s', Fs', e1, e2, e3⟩ := forApp_ok hij hm rest (don ++ [.lst .o (xs ++ [.non])]) rq (wr C.p s m (.lst (wsx ++ [.non]))) (l.set j (some (.ref m))) _ E _ q r9 (by
              rw [List.getElem?_set_ne (Ne.symm hij), List.getElem?_set_self il]) (by rw [List.getElem?_set_self (by simpa using (List.getElem?_eq_some_iff.mp hj).1)]) (by rw [List.getElem?_set_ne (Ne.symm hij)]; exact hl)
            refine ⟨l', s', Fs', ?_, k8.trans e2, ?_⟩
            · rw [List.length_cons]
              unfold CC.forI
              rw [nx]
              dsimp only [CC.gNm]
              rw [body]
              dsimp only
              rw [List.length_append] at e1
              exact e1
            · have ev : (((v.set i (some (.lst .o ((don ++ [.lst .o (xs ++ [.non])]) ++ rest)))).set j none).set i (some (.lst .o ((don ++ [.lst .o (xs ++ [.non])]) ++ rq)))) = v.set i (some (.lst .o (don ++ .lst .o (xs ++ [.non]) :: rq))) := by
                rw [List.set_comm _ _ (Ne.symm hij), List.set_set, set_none (by rw [List.getElem?_set_ne hij]; exact hj), List.append_assoc]
                rfl
              rw [ev] at e3
              exact e3
        · cases ha
      | s => cases ha
      | b => cases ha
    | _ => cases ha
theorem sim_forApp {i j : Nat} (hij : i ≠ j) (hm : C.mp = none ∨ j ≠ C.mi) : SimS C (sForApp i j) (CC.sFor C.p (CC.gNm j) (CC.iSeq (CC.eVar i) C.p) (CC.sEx (CC.eBm CC.isLst CC.fAppend C.p (CC.eVar j) (CC.aCons (CC.eC .non) CC.aNil)))) := fun s l vl E K B Fs r => by
  unfold sForApp
  split
  · rename_i us ho
    cases q : appAll us with
    | none => trivial
    | some us' =>
      dsimp only
      obtain ⟨w0, hw, d0⟩ := r.has i _ ho
      obtain ⟨n0, ws, F0, T0, rfl, e2, e3, _⟩ := d0.lst
      split
      · rename_i hj
        have r0 := r.put j none (.ref n0) l rfl (fun _ _ => rfl) (fun u z => (nomatch z)) r.mpk List.nodup_nil no
        obtain ⟨l', s', Fs', g1, g2, g3⟩ := forApp_ok hij hm us [] us' s l _ E _ q r0 (by rw [List.getElem?_set_ne (Ne.symm hij)]; exact ho) (List.getElem?_set_self hj) hw
        refine ⟨l', s', E, Fs', ?_, g2, by rw [List.set_comm _ _ hij]; exact g3⟩
        unfold CC.sFor CC.iSeq
        rw [var_ok hw]
        unfold CC.R.bind
        dsimp only
        have ci : CC.cellItems C.p s n0 = some ws := by unfold CC.cellItems; rw [e2]
        rw [ci]
        dsimp only
        unfold CC.ItD.cnt CC.cellLen
        dsimp only
        rw [ci]
        dsimp only
        rw [← e3.len]
        exact g1
      · trivial
  · trivial
end
end CV
set_option Elab.async false
set_option linter.all false
set_option maxRecDepth 100000
/-! CVEqA: == and != by an own __eq__, whatever stands at the right, over values -/
namespace CV
open PySem PySem.Spec PyProof.Rows L2
open CC (W Ob S Hh Lo R RS rd wr al nxt ItD)
def okRU : U → Bool
  | .dct _ _ => false
  | .dtt _ _ => false
  | .ins _ _ _ => false
  | _ => true
def gEqA (k : Nat) (F : List U → RF) (x y : U) : Option U := match isCU k x with
  | false => gEq x y
  | true => (match isCU k y || okRU y with
    | false => none
    | true => if noB x && noB y then (match F [bor x, bor y] with
      | .ok (.bl b) _ => some (.bl b)
      | _ => none) else none)
def gNeA (k : Nat) (F : List U → RF) (x y : U) : Option U := match isCU k x with
  | false => gNe x y
  | true => (match isCU k y || okRU y with
    | false => none
    | true => if noB x && noB y then (match F [bor x, bor y] with
      | .ok (.bl b) _ => some (.bl (!b))
      | _ => none) else none)
section
variable {c : Cf} {E B : Pr} {u : U} {w : W} {F : List Nat}
theorem okR_sim {p : Hh} {s : S} (d : D (rd p s) E B u w F) (h : okRU u = true) : CC.okR p s w = true := by
  cases u with
  | non => obtain rfl := d.is_non; rfl
  | bl _ => obtain rfl := d.is_bl; rfl
  | int _ => obtain rfl := d.is_int; rfl
  | str _ => obtain rfl := d.is_str; rfl
  | tup _ => obtain ⟨_, ws, rfl, _⟩ := d.is_tup; rfl
  | lst z us =>
    obtain ⟨n, ws, F0, T0, rfl, e, _⟩ := d.lst
    unfold CC.okR CC.cellItems
    dsimp only
    rw [e]; rfl
  | frz ns =>
    obtain ⟨rfl, n, rfl, e, _⟩ := d.frz_
    unfold CC.okR CC.cellItems
    dsimp only
    rw [e]; rfl
  | _ => cases h
theorem right_sim {p : Hh} {s : S} {k : Nat} (d : D (rd p s) E B u w F) (h : (isCU k u || okRU u) = true) : (CC.isC p s k w || CC.okR p s w) = true := by
  rcases Bool.or_eq_true_iff.mp h with e | e
  · rw [d.isC' e]; rfl
  · rw [okR_sim d e, Bool.or_true]
theorem x_eqA {k : Nat} {F : List U → RF} {m : Hh → List W → R W} (hF : SimF none F m) : Op2 (CC.gEqA k m) (gEqA k F) := fun {p s E B x y u wx wy Fx Fy} dx dy ev nd e => by
  unfold gEqA at e
  unfold CC.gEqA
  cases q : isCU k x with
  | false =>
    rw [q] at e
    rw [isC_false dx q]
    exact x_gEq dx dy ev nd e
  | true =>
    rw [q] at e
    rw [dx.isC' q]
    dsimp only at e ⊢
    cases q2 : (isCU k y || okRU y) with
    | false => rw [q2] at e; cases e
    | true =>
      rw [q2] at e
      rw [right_sim dy q2]
      dsimp only at e ⊢
      split at e
      · rename_i hb
        rw [Bool.and_eq_true] at hb
        -- all that is one's own is lent
        have l1 : D (rd p s) E (fun n => rd p s n ≠ none ∧ E n) (bor x) wx [] := (dx.noB hb.1).bor fun a m => ⟨dx.alive a m, dx.own a m⟩
        have l2 : D (rd p s) E (fun n => rd p s n ≠ none ∧ E n) (bor y) wy [] := (dy.noB hb.2).bor fun a m => ⟨dy.alive a m, dy.own a m⟩
        have h := hF (CC.mat p s) [bor x, bor y] [wx, wy] E (fun n => rd p s n ≠ none ∧ E n) (fun n => rd p s n ≠ none ∧ E n) [] (by
          rw [mat_fun]
          exact .cons (F := []) l1 (.cons (F := []) l2 .nil)) List.nodup_nil no (by rw [mat_fun]; exact ev) (fun n h => h) (by rw [mat_fun]; exact fun n h => h)
        rw [mat_fun] at h
        split at e
        · rename_i b o e3
          cases e
          rw [e3] at h
          obtain ⟨w, s', E', F', Fo, e4, k, ev', d2, _⟩ := h
          obtain rfl := d2.is_bl
          refine ⟨.bl b, CC.mrg p s s', [], ?_, ?_, ?_, d_bl, List.nodup_nil, no⟩
          · unfold CC.callF
            rw [e4]
          · rw [mrg_fun]
            intro n ob hn
            by_cases q : E n
            · rw [(k.kp n ⟨by rw [hn]; simp, q⟩).1]; exact hn
            · exact (k.sh n ob hn q).1
          · rw [mrg_fun]
            intro n hn
            cases q : rd p s n with
            | none => rfl
            | some ob => exact absurd hn (k.al n (by rw [q]; simp))
        · cases e
      · cases e
theorem x_neA {k : Nat} {F : List U → RF} {m : Hh → List W → R W} (hF : SimF none F m) : Op2 (CC.gNeA k m) (gNeA k F) := fun {p s E B x y u wx wy Fx Fy} dx dy ev nd e => by
  unfold gNeA at e
  unfold CC.gNeA
  cases q : isCU k x with
  | false =>
    rw [q] at e
    rw [isC_false dx q]
    exact x_gNe dx dy ev nd e
  | true =>
    rw [q] at e
    rw [dx.isC' q]
    dsimp only at e ⊢
    cases q2 : (isCU k y || okRU y) with
    | false => rw [q2] at e; cases e
    | true =>
      rw [q2] at e
      rw [right_sim dy q2]
      dsimp only at e ⊢
      split at e
      · rename_i hb
        rw [Bool.and_eq_true] at hb
        -- all that is one's own is lent
        have l1 : D (rd p s) E (fun n => rd p s n ≠ none ∧ E n) (bor x) wx [] := (dx.noB hb.1).bor fun a m => ⟨dx.alive a m, dx.own a m⟩
        have l2 : D (rd p s) E (fun n => rd p s n ≠ none ∧ E n) (bor y) wy [] := (dy.noB hb.2).bor fun a m => ⟨dy.alive a m, dy.own a m⟩
        have h := hF (CC.mat p s) [bor x, bor y] [wx, wy] E (fun n => rd p s n ≠ none ∧ E n) (fun n => rd p s n ≠ none ∧ E n) [] (by
          rw [mat_fun]
          exact .cons (F := []) l1 (.cons (F := []) l2 .nil)) List.nodup_nil no (by rw [mat_fun]; exact ev) (fun n h => h) (by rw [mat_fun]; exact fun n h => h)
        rw [mat_fun] at h
        split at e
        · rename_i b o e3
          cases e
          rw [e3] at h
          obtain ⟨w, s', E', F', Fo, e4, k, ev', d2, _⟩ := h
          obtain rfl := d2.is_bl
          refine ⟨.bl (!b), CC.mrg p s s', [], ?_, ?_, ?_, d_bl, List.nodup_nil, no⟩
          · unfold CC.callF
            rw [e4]
          · rw [mrg_fun]
            intro n ob hn
            by_cases q : E n
            · rw [(k.kp n ⟨by rw [hn]; simp, q⟩).1]; exact hn
            · exact (k.sh n ob hn q).1
          · rw [mrg_fun]
            intro n hn
            cases q : rd p s n with
            | none => rfl
            | some ob => exact absurd hn (k.al n (by rw [q]; simp))
        · cases e
      · cases e
end
end CV
set_option Elab.async false
set_option linter.all false
set_option maxRecDepth 100000
set_option maxHeartbeats 2000000
/-! CVDc: {k: v for .. in ..} over values -/
namespace CV
open PySem PySem.Spec PyProof.Rows L2
open CC (W Ob S Hh Lo R RS rd wr al nxt ItD)
def dcL (ct : CC.CTg) (t : VL → RU Bool) (ek ev : VL → RU U) : List U → List (Key × U) → VL → RU (List (Key × U))
  | [], kvs, v => .ok kvs v
  | u :: r, kvs, v => match bindV u v ct with
    | none => .bad
    | some v1 => match t v1 with
      | .ok false v2 => dcL ct t ek ev r kvs (wipeV v2 ct.slots)
      | .ok true v2 => (match ek v2 with
        | .ok x v3 => (match ev v3 with
          | .ok y v4 => (match keyU x with
            | some key => if kvs.length ≤ 1000000 ∧ (noO x && noO y && noB y) = true then dcL ct t ek ev r (putKU kvs key y) (wipeV v4 ct.slots) else .bad
            | none => .bad)
          | _ => .bad)
        | _ => .bad)
      | _ => .bad
def eDc (ct : CC.CTg) (mi : VL → RU (List U)) (t : VL → RU Bool) (ek ev : VL → RU U) : VL → RU U := fun v => (mi v).bind fun us v1 => if noOs v1 ct.slots then (match dcL ct t ek ev us [] (wipeV v1 ct.slots) with
  | .ok kvs v2 => .ok (.dct .o kvs) (restV v1 v2 ct.slots)
  | _ => .bad) else .bad
section
variable {C : Ct} {md : Bool} {c c1 : Cf} {E E1 K K1 B : Pr} {l : Lo} {vl : VL} {s : S} {Fs : Nat → List Nat}
structure AcD (C : Ct) (s : S) (E K : Pr) (Fs : Nat → List Nat) (n : Nat) (kvs : List (Key × U)) (kws : List (Key × W)) : Prop where
  at_ : rd C.p s n = some (.dct kws)
  ks : kvs.map (·.1) = kws.map (·.1)
  ds : ∃ T, D0s (rd C.p s) (kvs.map (·.2)) (kws.map (·.2)) [] T ∧ ∀ a ∈ T, ¬ E a
  en : E n
  nk : ¬ K n
  fr : ∀ i, n ∉ Fs i
theorem D0s.shK {E' : Pr} {us : List U} {ws : List W} {T : List Nat} (h : D0s c us ws [] T) (q : ∀ a ∈ T, ¬ E a) (k : Keep c E K c1 E') : D0s c1 us ws [] T ∧ ∀ a ∈ T, ¬ E' a := by
  have hh : ∀ a ∈ T, c1 a = c a ∧ ¬ E' a := fun a m => by
    cases e : c a with
    | none => exact absurd e (h.alive a (.inr m))
    | some o => exact k.sh a o e (q a m)
  exact ⟨h.mono fun a m => m.elim (fun m => absurd m List.not_mem_nil) fun m => (hh a m).1, fun a m => (hh a m).2⟩
theorem dc_ok {ct : CC.CTg} {t : VL → RU Bool} {ek ev : VL → RU U} {mt : Lo → S → R Bool} {mk mv : Lo → S → R W} (hm : C.mp = none ∨ C.mi ∉ ct.slots) (ht : SimT C md t mt) (hk : SimE C md ek mk) (he : SimE C md ev mv) {d : ItD} {wsI : List W} {Sx : List Nat} {c0 : Cf} (al0 : ∀ a ∈ Sx, c0 a ≠ none)
    (hd : ∀ p s, (∀ a ∈ Sx, rd p s a = c0 a) → (∀ i : Nat, d.next p s i = some wsI[i]?) ∧ wsI.length ≤ d.cnt p s) (n : Nat) {l0 : Lo} {K B : Pr} : ∀ (us : List U) (i fuel : Nat) (s : S) (v : VL) (E : Pr) (Fs : Nat → List Nat) (kvs : List (Key × U)) (kws : List (Key × W)), SL C md (rd C.p s) E K B v l0 Fs → Ds (rd C.p s) E B us (wsI.drop i) [] →
      (∀ a ∈ Sx, rd C.p s a = c0 a ∧ (¬ E a ∨ B a)) → AcD C s E K Fs n kvs kws → us.length < fuel → ∀ ys v', dcL ct t ek ev us kvs v = .ok ys v' →
      ∃ s' E' Fs' kws', CC.dcI C.p ct mt mk mv d n fuel i l0 s = .ok (.ref n) s' ∧ Keep (rd C.p s) E K (rd C.p s') E' ∧ SL C md (rd C.p s') E' K B v' l0 Fs' ∧ AcD C s' E' K Fs' n ys kws'
  | us, i, 0, s, v, E, Fs, kvs, kws, r, ds, hs, ac, hf, ys, v', q => absurd hf (Nat.not_lt_zero _)
  | [], i, fuel + 1, s, v, E, Fs, kvs, kws, r, ds, hs, ac, hf, ys, v', q => by
    cases q
    rcases ds.nil_of rfl with ⟨_, e⟩ | ⟨_, _, _, _, e, _⟩
    · have hi : wsI[i]? = none := by
        rw [List.getElem?_eq_none]
        have := congrArg List.length e
        simp at this; omega
      unfold CC.dcI
      rw [(hd C.p s fun a h => (hs a h).1).1 i, hi]
      exact ⟨s, E, Fs, kws, rfl, .rfl', r, ac⟩
    · cases e
  | u :: us, i, fuel + 1, s, v, E, Fs, kvs, kws, r, ds, hs, ac, hf, ys, v', q => by
    rcases ds.nil_of rfl with ⟨e, _⟩ | ⟨u', w, us', ws', e1, e2, d1, d2⟩
    · cases e
    · cases e1
      have hi : wsI[i]? = some w := by
        have := congrArg (fun l => l[0]?) e2
        simpa [List.getElem?_drop] using this
      have e3 : wsI.drop (i + 1) = ws' := by
        rw [← List.drop_drop, e2]; rfl
      unfold CC.dcI
      rw [(hd C.p s fun a h => (hs a h).1).1 i, hi]
      dsimp only
      unfold dcL at q
      cases e4 : bindV u v ct with
      | none => rw [e4] at q; cases q
      | some v1 =>
        rw [e4] at q
        dsimp only at q
        obtain ⟨l1, Fs1, e5, r1, hl1, ho1, hF1⟩ := bind_ok hm r d1 e4
        rw [e5]
        dsimp only
        have fF : Fr [n] K Fs1 := ⟨by simp, fun a m => by
          rw [List.mem_singleton.mp m]
          exact ⟨ac.nk, fun j z => ac.fr j (hF1 j n z)⟩⟩
        have r1' := r1.grow fF fun a m => by
          rw [List.mem_singleton.mp m]
          exact ⟨by rw [ac.at_]; simp, ac.en⟩
        have sub : ∀ a, K a → kU K [n] a := fun a h => .inl h
        have inn : kU K [n] n := .inr (by simp)
        have h3 := ht s l1 v1 E (kU K [n]) B Fs1 r1'
        have keepA : ∀ {s2 E2 Fs2 v2}, Keep (rd C.p s) E (kU K [n]) (rd C.p s2) E2 → SL C md (rd C.p s2) E2 (kU K [n]) B v2 l1 Fs2 → AcD C s2 E2 K Fs2 n kvs kws := fun k2 r2 =>
          ⟨by rw [(k2.kp n inn).1]; exact ac.at_, ac.ks, by
            obtain ⟨T, d0, t0⟩ := ac.ds
            exact ⟨T, d0.shK t0 k2⟩, (k2.kp n inn).2 ac.en, ac.nk, fun j => r2.sep r.bk (by simp) ac.nk j⟩
        have hsx : ∀ {s2 E2}, Keep (rd C.p s) E K (rd C.p s2) E2 → ∀ a ∈ Sx, rd C.p s2 a = c0 a ∧ (¬ E2 a ∨ B a) := fun k2 a h => by
          have := k2.at r.bk (a := a) ⟨by rw [(hs a h).1]; exact al0 a h, (hs a h).2⟩
          exact ⟨this.1.trans (hs a h).1, this.2⟩
        have hf' : us.length < fuel := by simp at hf; omega
        cases e6 : t v1 with
        | bad => rw [e6] at q; cases q
        | exc _ _ _ => rw [e6] at q; cases q
        | ok bt v2 =>
          rw [e6] at h3 q
          obtain ⟨bt', s2, E2, F, Fs2, e7, k2, r2, ⟨rfl, _⟩, _⟩ := h3
          rw [e7]
          cases bt with
          | false =>
            dsimp only at q
            dsimp only
            have r3 := (r2.weak sub r.bk).wipe (is := ct.slots) (l0 := l0) hl1.symm ho1 r.mpk
            obtain ⟨s', E', Fs', kws', g1, g2, g3, g4⟩ := dc_ok hm ht hk he al0 hd n us (i + 1) fuel s2 _ E2 Fs2 kvs kws r3 (by rw [e3]; exact d2.mono (k2.weak sub) r.bk no) (hsx (k2.weak sub)) (keepA k2 r2) hf' ys v' q
            exact ⟨s', E', Fs', kws', g1, (k2.weak sub).trans g2, g3, g4⟩
          | true =>
            dsimp only at q
            dsimp only
            have h4 := hk s2 l1 v2 E2 (kU K [n]) B Fs2 r2
            cases e8 : ek v2 with
            | bad => rw [e8] at q; cases q
            | exc _ _ _ => rw [e8] at q; cases q
            | ok x v3 =>
              rw [e8] at h4 q
              obtain ⟨wx, s3, E3, F3, Fs3, e9, k3, r3, d3, f3⟩ := h4
              rw [e9]
              dsimp only at q
              dsimp only
              have h5 := he s3 l1 v3 E3 (kU K [n]) B Fs3 r3
              cases e10 : ev v3 with
              | bad => rw [e10] at q; cases q
              | exc _ _ _ => rw [e10] at q; cases q
              | ok y v4 =>
                rw [e10] at h5 q
                obtain ⟨wy, s4, E4, F4, Fs4, e11, k4, r4, d4, f4⟩ := h5
                rw [e11]
                dsimp only at q
                dsimp only
                cases e12 : keyU x with
                | none => rw [e12] at q; cases q
                | some key =>
                  rw [e12] at q
                  dsimp only at q
                  split at q
                  · rename_i hq
                    simp only [Bool.and_eq_true] at hq
                    obtain ⟨hl, ⟨hx, hy⟩, hb⟩ := hq
                    have kk := (k2.trans k3).trans k4
                    have ac4 := keepA kk r4
                    rw [ac4.at_, key_ok d3 e12]
                    dsimp only
                    have hlen : kws.length = kvs.length := by
                      have := congrArg List.length ac.ks
                      simpa using this.symm
                    rw [if_pos (by omega)]
                    have na : rd C.p s4 n ≠ none := by rw [ac4.at_]; simp
                    have ne := wr_ne (p := C.p) (s := s4) (n := n) (o := .dct (CC.putKW kws key wy)) na
                    have at5 := wr_at (p := C.p) (s := s4) (n := n) (o := .dct (CC.putKW kws key wy)) na
                    have r5 := ((r4.weak sub r.bk).upd ne (by rw [at5]; simp) ac4.en ac4.nk ac4.fr).wipe (is := ct.slots) (l0 := l0) hl1.symm ho1 r.mpk
                    have k5 : Keep (rd C.p s) E K (rd C.p (wr C.p s4 n (.dct (CC.putKW kws key wy)))) E4 := (kk.weak sub).trans (Keep.upd ne (by rw [at5]; simp) ac4.en ac4.nk)
                    obtain rfl := d4.noO hy
                    obtain ⟨T, d0, t0⟩ := ac4.ds
                    obtain ⟨Tu, du, tu1, tu2⟩ := d4.to0 hb
                    obtain ⟨F', T', p1, p2, p3, p4, p5⟩ := putKU_ok (k := key) du ac4.ks d0 List.nodup_nil
                    have eF : F' = [] := List.eq_nil_iff_forall_not_mem.mpr fun a m => absurd (p4 a m) List.not_mem_nil
                    subst eF
                    have tn : ∀ a ∈ T', ¬ E4 a := fun a m => (p5 a m).elim (t0 a) (tu2 a)
                    have ac5 : AcD C (wr C.p s4 n (.dct (CC.putKW kws key wy))) E4 K Fs4 n (putKU kvs key y) (CC.putKW kws key wy) := ⟨at5, p1, ⟨T', p2.mono fun a m => m.elim (fun m => absurd m List.not_mem_nil) fun m => ne a fun e => tn a m (e ▸ ac4.en), tn⟩, ac4.en, ac4.nk, ac4.fr⟩
                    obtain ⟨s', E', Fs', kws', g1, g2, g3, g4⟩ := dc_ok hm ht hk he al0 hd n us (i + 1) fuel _ _ E4 Fs4 _ _ r5 (by rw [e3]; exact d2.mono k5 r.bk no) (hsx k5) ac5 hf' ys v' q
                    exact ⟨s', E', Fs', kws', g1, k5.trans g2, g3, g4⟩
                  · cases q
theorem sim_dc {ct : CC.CTg} {mi : VL → RU (List U)} {mi' : Lo → S → R ItD} {t : VL → RU Bool} {ek ev : VL → RU U} {mt : Lo → S → R Bool} {mk mv : Lo → S → R W} (hm : C.mp = none ∨ C.mi ∉ ct.slots) (hi : Sim C md RIt mi mi') (ht : SimT C md t mt) (hk : SimE C md ek mk) (he : SimE C md ev mv) : SimE C md (eDc ct mi t ek ev) (CC.eDc C.p ct mi' mt mk mv) := fun s l vl E K B Fs r => by
  refine (hi s l vl E K B Fs r).bind r.bk fun us v1 d s2 E2 F Fs2 k2 r2 q f => ?_
  obtain ⟨_, wsI, Sx, ds, al0, hd⟩ := q
  split
  · rename_i hn
    cases e1 : dcL ct t ek ev us [] (wipeV v1 ct.slots) with
    | bad => trivial
    | exc _ _ _ => trivial
    | ok ys v2 =>
      dsimp only
      have mp0 : ∀ w, C.mp = some w → (CC.wipeL l ct.slots)[C.mi]? = some (some w) := fun w e => by
        rcases hm with hm | hm
        · rw [hm] at e; cases e
        · rw [wipeL_out hm]; exact r2.mpk w e
      have r3 := (r2.ext (c1 := rd C.p (al s2 (.dct []))) ext_al none_al).wipe (is := ct.slots) (l0 := CC.wipeL l ct.slots) wipeL_len (fun j h => (wipeL_out h).symm) mp0
      have ac : AcD C (al s2 (.dct [])) E2 K Fs2 (nxt C.p s2) [] [] := ⟨rd_new, rfl, ⟨[], .nil, no⟩, r2.ev _ rd_nxt, fun h => (r2.ka _ h).1 rd_nxt, fun i h => (r2.ex i _ h).1 rd_nxt⟩
      obtain ⟨s', E', Fs', kws', g1, g2, g3, g4⟩ := dc_ok hm ht hk he (c0 := rd C.p s2) (fun a h => (al0 a h).1) hd (nxt C.p s2) us 0 (d.cnt C.p s2 + 1) _ _ E2 Fs2 [] [] r3 (by rw [List.drop_zero]; exact ds.ext ext_al) (fun a h => ⟨by
        cases q : rd C.p s2 a with
        | none => exact absurd q (al0 a h).1
        | some o => exact ext_al a o q, (al0 a h).2⟩) ac (by rw [ds.len]; exact Nat.lt_succ_of_le (hd C.p s2 fun a h => rfl).2) ys v2 e1
      have kk : Keep (rd C.p s2) E2 K (rd C.p s') E' := (Ext.keep ext_al r2.ka).trans g2
      obtain ⟨T, d0, t2⟩ := g4.ds
      refine ⟨_, s', E', [nxt C.p s2], fun i => if i ∈ ct.slots then [] else Fs' i, g1, k2.trans kk, ?_, ⟨T, [], .z (.own g4.at_ (.dct g4.ks) d0), fun a m => ?_, t2, no⟩, by simp, fun a m => ?_⟩
      · have sub : ∀ i a, a ∈ (if i ∈ ct.slots then [] else Fs' i) → a ∈ Fs' i := fun i a m => by
          split at m
          · cases m
          · exact m
        refine ⟨by rw [restV_len, g3.len, wipeL_len], fun i u h => ?_, fun m => ⟨fun i => ⟨?_, fun a h => ((g3.own m).1 i).2 a (sub i a h)⟩, fun i j a h h2 => (g3.own m).2 i j a (sub i a h) (sub j a h2)⟩, fun m i a h => g3.bor m i a (sub i a h), fun i a h => g3.ex i a (sub i a h), g3.ax, r2.mpk, g3.ev, g3.bk, g3.ka⟩
        · by_cases hi : i ∈ ct.slots
          · have h0 := restV_in hi h
            obtain ⟨w, h1, h2⟩ := r2.has i u h0
            have f0 := h2.noO (noOs_at hn hi h0)
            rw [f0] at h2
            rw [if_pos hi]
            exact ⟨w, h1, h2.mono kk r2.bk no⟩
          · rw [restV_out hi] at h
            obtain ⟨w, h1, h2⟩ := g3.has i u h
            rw [if_neg hi]
            exact ⟨w, (wipeL_out hi).symm.trans h1, h2⟩
        · split
          · exact List.nodup_nil
          · exact ((g3.own m).1 i).1
      · rw [List.mem_singleton.mp m]
        exact g4.en
      · rw [List.mem_singleton.mp m]
        refine ⟨g4.nk, fun i => ?_⟩
        show nxt C.p s2 ∉ (if i ∈ ct.slots then [] else Fs' i)
        by_cases hi : i ∈ ct.slots
        · rw [if_pos hi]; simp
        · rw [if_neg hi]; exact g4.fr i
  · trivial
end
end CV
set_option Elab.async false
set_option linter.all false
set_option maxRecDepth 100000
/-! CVUnp: a, b = a tuple or a list, by values -/
namespace CV
open PySem PySem.Spec PyProof.Rows L2
open CC (W Ob S Hh Lo R RS rd wr al nxt)
def gUnpT (n : Nat) (r : List U → VL → Option VL) : U → VL → Option VL := fun u v => match itemsU u with
  | some us => if us.length = n then r us v else none
  | none => none
theorem sim_gunp {C : Ct} {n : Nat} {gs : List U → VL → Option VL} {ms : List W → Lo → S → CC.OG} (h : SimGs C gs ms) : SimG C (gUnpT n gs) (CC.gUnpT n ms C.p) := fun s l vl E K B Fs u w F r d f => by
  unfold gUnpT
  cases e : itemsU u with
  | none => trivial
  | some us =>
    dsimp only
    obtain ⟨ws, ds, q⟩ := items_ok d e
    have k3 : Keep (rd C.p s) E K (rd C.p s) (dn E F) := Keep.dn fun a m => (f.2 a m).1
    have r3 := r.dn f.2 d.alive
    have len := ds.len
    by_cases hl : us.length = n
    · rw [if_pos hl]
      have go := h s l vl _ K B Fs us ws r3 ds
      have em : CC.gUnpT n ms C.p w l s = ms ws l s := by
        unfold CC.gUnpT
        rcases q with ⟨m, rfl, e2, _⟩ | rfl
        · dsimp only
          rw [e2]
          dsimp only
          rw [if_pos (by rw [← len]; exact hl)]
        · dsimp only
          rw [if_pos (by rw [← len]; exact hl)]
      rw [em]
      cases e4 : gs us vl with
      | none => trivial
      | some v =>
        rw [e4] at go
        obtain ⟨l', s', E', Fs', e5, k5, r5⟩ := go
        exact ⟨l', s', E', Fs', e5, k3.trans k5, r5⟩
    · rw [if_neg hl]
      trivial
end CV
set_option Elab.async false
set_option linter.all false
set_option maxRecDepth 100000
/-! CVMin: min and max of a list of ints, by values -/
namespace CV
open PySem PySem.Spec PyProof.Rows L2
open CC (W Ob S Hh Lo R RS rd wr al nxt mnI mxI)
def fMinL (xs : List U) : Option U := match xs with
  | [u] => (match rawL u with
    | some us => (match isIntsU us with
      | some ns => (match mnI ns with | some k => some (.int k) | none => none)
      | none => none)
    | none => none)
  | _ => none
def fMaxL (xs : List U) : Option U := match xs with
  | [u] => (match rawL u with
    | some us => (match isIntsU us with
      | some ns => (match mxI ns with | some k => some (.int k) | none => none)
      | none => none)
    | none => none)
  | _ => none
theorem x_fMinL : OpN CC.fMinL fMinL := by
  refine opN_one (fun xs h => ?_) fun {p s E B x u w Fx} d ev nd e => ?_
  · unfold fMinL
    split
    · exact absurd rfl (h _)
    · rfl
  unfold fMinL at e
  dsimp only at e
  cases q : rawL x with
  | none => rw [q] at e; cases e
  | some us =>
    rw [q] at e
    dsimp only at e
    cases q2 : isIntsU us with
    | none => rw [q2] at e; cases e
    | some ns =>
      rw [q2] at e
      dsimp only at e
      cases q3 : mnI ns with
      | none => rw [q3] at e; cases e
      | some k =>
        rw [q3] at e
        cases e
        obtain ⟨ws, F0, T0, h1, h2⟩ := rawL_ok d q
        exact ⟨_, s, [], by unfold CC.fMinL; dsimp only; rw [h1]; dsimp only; rw [ints0_ok h2 q2]; dsimp only; rw [q3], sc_end rfl⟩
theorem x_fMaxL : OpN CC.fMaxL fMaxL := by
  refine opN_one (fun xs h => ?_) fun {p s E B x u w Fx} d ev nd e => ?_
  · unfold fMaxL
    split
    · exact absurd rfl (h _)
    · rfl
  unfold fMaxL at e
  dsimp only at e
  cases q : rawL x with
  | none => rw [q] at e; cases e
  | some us =>
    rw [q] at e
    dsimp only at e
    cases q2 : isIntsU us with
    | none => rw [q2] at e; cases e
    | some ns =>
      rw [q2] at e
      dsimp only at e
      cases q3 : mxI ns with
      | none => rw [q3] at e; cases e
      | some k =>
        rw [q3] at e
        cases e
        obtain ⟨ws, F0, T0, h1, h2⟩ := rawL_ok d q
        exact ⟨_, s, [], by unfold CC.fMaxL; dsimp only; rw [h1]; dsimp only; rw [ints0_ok h2 q2]; dsimp only; rw [q3], sc_end rfl⟩
end CV
set_option Elab.async false
set_option linter.all false
set_option maxRecDepth 100000
/-! CVPar: four targets at once -/
namespace CC
open PySem PySem.Spec PyProof.Rows L2
def sPar4 (i j n m : Nat) (mr : Lo → S → R (List W)) : Lo → S → RS := fun l s => match mr l s with
  | .ok [x, y, z, w] s1 => .nx ((((l.set i (some x)).set j (some y)).set n (some z)).set m (some w)) s1
  | .exc c w s1 => .exc c w l s1
  | _ => .bad
end CC
namespace CV
open PySem PySem.Spec PyProof.Rows L2
open CC (W Ob S Hh Lo R RS rd wr al nxt)
def sPar4 (g1 g2 g3 g4 : U → VL → Option VL) (mr : VL → RU (List U)) : VL → RSU := fun v => match mr v with
  | .ok [x, y, z, w] v1 => (match g1 x v1 with
    | some v2 => (match g2 y v2 with
      | some v3 => (match g3 z v3 with
        | some v4 => nxO (g4 w v4)
        | none => .bad)
      | none => .bad)
    | none => .bad)
  | .exc c u v1 => .exc c u v1
  | _ => .bad
section
variable {C : Ct}
theorem sim_par4 {i j n m : Nat} {g1 g2 g3 g4 : U → VL → Option VL} {a : VL → RU (List U)} {ma : Lo → S → R (List W)} (h1 : SimG C g1 (CC.gNm i)) (h2 : SimG C g2 (CC.gNm j)) (h3 : SimG C g3 (CC.gNm n)) (h4 : SimG C g4 (CC.gNm m)) (ha : SimA C true a ma) : SimS C (sPar4 g1 g2 g3 g4 a) (CC.sPar4 i j n m ma) := fun s l vl E K B Fs r => by
  have h := ha s l vl E K B Fs r
  unfold sPar4 CC.sPar4
  cases e : a vl with
  | bad => trivial
  | exc k u v =>
    rw [e] at h
    obtain ⟨w, s2, E2, Fs2, e2, x, y, z⟩ := h
    rw [e2]
    exact ⟨w, l, s2, E2, Fs2, rfl, x, y, z⟩
  | ok us v =>
    rw [e] at h
    obtain ⟨ws, s2, E2, F, Fs2, e2, k2, r2, d, f⟩ := h
    rw [e2]
    match us, ws, F, d, f with
    | [x, y, z, w], _, _, .cons d1 (.cons d2 (.cons d3 (.cons d4 .nil))), f =>
      dsimp only
      cases e3 : g1 x v with
      | none => trivial
      | some v1 =>
        obtain ⟨E3, Fs3, k3, r3, ds, f3⟩ := nm_rest h1 r2 r.bk d1 (.cons d2 (.cons d3 (.cons d4 .nil))) f e3
        dsimp only
        cases e4 : g2 y v1 with
        | none => trivial
        | some v2 =>
            obtain ⟨A1, A2, e6, d2, q⟩ := ds.inv
            rw [e6] at f3
            obtain ⟨E4, Fs4, k4, r4, ds4, f4⟩ := nm_rest h2 r3 r.bk d2 q f3 e4
            dsimp only
            cases e5 : g3 z v2 with
            | none => trivial
            | some v3 =>
                obtain ⟨A3, A4, e7, d3, q2⟩ := ds4.inv
                rw [e7] at f4
                obtain ⟨E5, Fs5, k5, r5, ds5, f5⟩ := nm_rest h3 r4 r.bk d3 q2 f4 e5
                dsimp only
                cases e8 : g4 w v3 with
                | none => trivial
                | some v4 =>
                    obtain ⟨A5, A6, e9, d4, q3⟩ := ds5.inv
                    obtain rfl := q3.inv0
                    rw [e9] at f5
                    rw [List.append_nil] at f5
                    obtain ⟨E6, Fs6, k6, r6⟩ := nm_of h4 r5 d4 f5 e8
                    exact ⟨_, s2, E6, Fs6, rfl, (((k2.trans k3).trans k4).trans k5).trans k6, r6⟩
    | [], _, _, _, _ => trivial
    | [_], _, _, _, _ => trivial
    | [_, _], _, _, _, _ => trivial
    | [_, _, _], _, _, _, _ => trivial
    | _ :: _ :: _ :: _ :: _ :: _, _, _, _, _ => trivial
theorem sim_part4 {i j n m : Nat} {g1 g2 g3 g4 : U → VL → Option VL} {a : VL → RU (List U)} {ma : Lo → S → R (List W)} (h1 : SimG C g1 (CC.gNm i)) (h2 : SimG C g2 (CC.gNm j)) (h3 : SimG C g3 (CC.gNm n)) (h4 : SimG C g4 (CC.gNm m)) (ha : SimA C true a ma) : SimS C (sPar4 g1 g2 g3 g4 a) (CC.sAsg (CC.gTupT 4 (CC.gsCons (CC.gNm i) (CC.gsCons (CC.gNm j) (CC.gsCons (CC.gNm n) (CC.gsCons (CC.gNm m) CC.gsNil))))) (CC.eTup ma)) :=
  sim_weak (sim_par4 h1 h2 h3 h4 ha) fun l s h => by
    unfold CC.sPar4 at h ⊢
    unfold CC.sAsg CC.eTup
    cases z : ma l s with
    | bad => rw [z] at h; exact absurd rfl h
    | exc c w s1 => rfl
    | ok ws s1 =>
      rw [z] at h
      match ws, h with
      | [], h => exact absurd rfl h
      | [_], h => exact absurd rfl h
      | [_, _], h => exact absurd rfl h
      | [_, _, _], h => exact absurd rfl h
      | [x, y, q, t], h =>
        unfold CC.R.bind
        dsimp only
        rw [if_pos (show [x, y, q, t].length ≤ 1000000 by show 4 ≤ 1000000; decide)]
        rfl
      | _ :: _ :: _ :: _ :: _ :: _, h => exact absurd rfl h
end
end CV
set_option Elab.async false
set_option linter.all false
set_option maxRecDepth 100000
/-! CVEvn: every second item of a list, by values -/
namespace CV
open PySem PySem.Spec PyProof.Rows L2
open CC (W Ob S Hh Lo R RS rd wr al nxt evs evk)
def eEvs (b : Bool) (mo : VL → RU U) : VL → RU U := fun v => (mo v).bind fun o v1 => match lfU o with
  | some us => if (evk b us).all noB then .ok (.lst .o (evk b us)) v1 else .bad
  | none => .bad
section
variable {C : Ct} {md : Bool} {c c1 : Cf} {E E1 K K1 B : Pr} {l : Lo} {vl : VL} {s : S} {Fs : Nat → List Nat}
theorem Ds.evs : ∀ (us : List U) (ws : List W) (F : List Nat), Ds c E B us ws F → F.Nodup → ∃ F', Ds c E B (evs us) (evs ws) F' ∧ F'.Nodup ∧ ∀ a ∈ F', a ∈ F
  | _, _, _, .nil, _ => ⟨[], .nil, List.nodup_nil, fun _ m => m⟩
  | _, _, _, .cons d .nil, nd => ⟨_, .cons d .nil, nd, fun _ m => m⟩
  | _, _, _, .cons (F := F1) d (.cons (F := F2) (F' := F3) d2 r), nd => by
    have nd2 := List.nodup_append.mp nd
    have nd3 := List.nodup_append.mp nd2.2.1
    obtain ⟨F', h1, h2, h3⟩ := Ds.evs _ _ _ r nd3.2.1
    refine ⟨F1 ++ F', .cons d h1, List.nodup_append.mpr ⟨nd2.1, h2, fun a m b m2 e => nd2.2.2 a m b (List.mem_append_right _ (h3 b m2)) e⟩, fun a m => ?_⟩
    rcases List.mem_append.mp m with m | m
    · exact List.mem_append_left _ m
    · exact List.mem_append_right _ (List.mem_append_right _ (h3 a m))
theorem Ds.evk (b : Bool) {us : List U} {ws : List W} {F : List Nat} (h : Ds c E B us ws F) (nd : F.Nodup) : ∃ F', Ds c E B (evk b us) (evk b ws) F' ∧ F'.Nodup ∧ ∀ a ∈ F', a ∈ F := by
  unfold CC.evk
  split
  · obtain ⟨F1, h1, n1, i1⟩ := h.drop nd 1
    obtain ⟨F2, h2, n2, i2⟩ := Ds.evs _ _ _ h1 n1
    exact ⟨F2, h2, n2, fun a m => i1 a (i2 a m)⟩
  · exact Ds.evs _ _ _ h nd
theorem sim_evs {b : Bool} {o : VL → RU U} {mo : Lo → S → R W} (ho : SimE C md o mo) : SimE C md (eEvs b o) (CC.eEvs b C.p mo) := fun s l vl E K B Fs r => by
  refine (ho s l vl E K B Fs r).bind r.bk fun x v w s2 E2 F Fs2 k2 r2 d f => ?_
  cases q : lfU x with
  | none => trivial
  | some us =>
    dsimp only
    split
    · rename_i hb
      obtain ⟨n, ws, F', rfl, e, ds, nd, i⟩ := lfU_ok d f.1 q
      obtain ⟨F2, ds2, nd2, i2⟩ := ds.evk b nd
      obtain ⟨d, nn⟩ := new_lst ds2 hb r2.ev nd2
      have e2 : CC.cellL C.p s2 (.ref n) = some ws := e
      rw [e2]
      exact fin_ext k2 r2 f ext_al none_al d nn fun a m => (List.mem_cons.mp m).elim (fun e => .inr (by rw [e]; exact rd_nxt)) fun m => .inl (i a (i2 a m))
    · trivial
end
theorem St.evs {mo : VL → RU U} {b : Bool} {o : U} {us : List U} {v v1 : VL} (h : mo v = .ok o v1) (h2 : lfU o = some us) (hb : (evk b us).all noB = true) : eEvs b mo v = .ok (.lst .o (evk b us)) v1 := by
  unfold eEvs; rw [h]; unfold RU.bind; dsimp only; rw [h2]; dsimp only; rw [if_pos hb]
end CV
set_option Elab.async false
set_option linter.all false
set_option maxRecDepth 100000
set_option maxHeartbeats 2000000
/-! CVHalf: the same of values -/
namespace CV
open PySem PySem.Spec PyProof.Rows L2
open CC (W Ob S Hh Lo R RS rd wr al nxt)
def kvsZU : List (Key × U) → Option (List (Key × Int))
  | [] => some []
  | (k, .int i) :: r => (kvsZU r).map ((k, i) :: ·)
  | _ :: _ => none
def toU (L : List (Key × Int)) : List (Key × U) := L.map fun q => (q.1, U.int q.2)
def halfV (x y : Nat) (D : List (Key × Int)) : List Int → VL → List (Key × Int) → VL × List (Key × Int)
  | [], l, L => (l, L)
  | k :: r, l, L => halfV x y D r (((l.set x (some (.int k))).set y (some (.int (k - 1)))).set y (some (.int (k + 1))))
      (CC.stZ (CC.stZ L (k - 1) ((CC.valZ D (.inl k)).getD 0)) (k + 1) ((CC.valZ D (.inl k)).getD 0))
def sHalf (d f x y : Nat) : VL → RSU := fun v => match v[d]?, v[f]? with
  | some (some (.dct _ kv)), some (some (.dct .o kw)) => (match kvsZU kv, kvsZU kw with
    | some D, some L => (match CC.hKeys D with
      | some ks => if d ≠ f ∧ (d ≠ x ∧ d ≠ y) ∧ (f ≠ x ∧ f ≠ y) ∧ x ≠ y ∧ (x < v.length ∧ y < v.length) ∧ L.length + 2 * ks.length ≤ 1000 then .nx (halfV x y D ks (v.set f (some (.dct .o (toU (halfV x y D ks v L).2)))) L).1 else .bad
      | none => .bad)
    | _, _ => .bad)
  | _, _ => .bad
theorem halfV_snd (x y : Nat) (D : List (Key × Int)) : ∀ (ks : List Int) (v : VL) (l : Lo) (L : List (Key × Int)), (halfV x y D ks v L).2 = (CC.halfL x y D ks l L).2
  | [], v, l, L => rfl
  | k :: r, v, l, L => by
    unfold halfV CC.halfL
    exact halfV_snd x y D r _ _ _
theorem kvs_w {c : Cf} : ∀ {kv : List (Key × U)} {D : List (Key × Int)} {kw : List (Key × W)} {F T : List Nat}, kvsZU kv = some D → kv.map (·.1) = kw.map (·.1) → D0s c (kv.map (·.2)) (kw.map (·.2)) F T → kw = CC.toW D ∧ F = [] ∧ T = []
  | [], D, [], F, T, h, _, d => by cases h; cases d; exact ⟨rfl, rfl, rfl⟩
  | [], D, _ :: _, F, T, h, e, _ => by cases e
  | _ :: _, D, [], F, T, h, e, _ => by cases e
  | (k, u) :: kv, D, (k', w) :: kw, F, T, h, e, d => by
    unfold kvsZU at h
    cases u with
    | int i =>
      dsimp only at h
      cases q : kvsZU kv with
      | none => rw [q] at h; cases h
      | some M =>
        rw [q] at h
        cases h
        have e' := List.cons.inj (show k :: kv.map (·.1) = k' :: kw.map (·.1) from e)
        have d' : D0s c (U.int i :: kv.map (·.2)) (w :: kw.map (·.2)) F T := d
        cases d' with
        | cons a b =>
          obtain ⟨r1, r2, r3⟩ := kvs_w q e'.2 b
          cases a with
          | int =>
            subst r1 r2 r3
            exact ⟨by rw [← e'.1]; rfl, rfl, rfl⟩
          | own _ k _ => cases k
          | shr _ k _ => cases k
    | _ => cases h
theorem kvsZ_toW : ∀ D : List (Key × Int), CC.kvsZ (CC.toW D) = some D
  | [] => rfl
  | q :: D => by
    show (CC.kvsZ (CC.toW D)).map ((q.1, q.2) :: ·) = _
    rw [kvsZ_toW D]; rfl
section
variable {C : Ct} {c : Cf} {E K B : Pr} {l : Lo} {vl : VL} {s : S} {Fs : Nat → List Nat}
theorem SL.int (r : SL C true c E K B vl l Fs) (hm : C.mp = none) (i : Nat) (k : Int) : ∃ Fs', SL C true c E K B (vl.set i (some (.int k))) (l.set i (some (.int k))) Fs' :=
  ⟨_, r.put (F := []) i (some (.int k)) (.int k) (l.set i (some (.int k))) (by simp) (fun j hj => by rw [List.getElem?_set_ne (Ne.symm hj)]) (fun u hu hlt => by
    cases hu
    exact ⟨List.getElem?_set_self (by rw [← r.len]; exact hlt), [], [], .z (.int k), no, no, no⟩) (by rw [hm]; intro _ z; cases z) List.nodup_nil (fun a m => by cases m)⟩
theorem half_sl (hm : C.mp = none) (x y : Nat) (D : List (Key × Int)) : ∀ (ks : List Int) (vl : VL) (l : Lo) (L : List (Key × Int)) (Fs : Nat → List Nat), SL C true c E K B vl l Fs → ∃ Fs', SL C true c E K B (halfV x y D ks vl L).1 (CC.halfL x y D ks l L).1 Fs'
  | [], vl, l, L, Fs, r => ⟨Fs, r⟩
  | k :: ks, vl, l, L, Fs, r => by
    obtain ⟨F1, r1⟩ := r.int hm x k
    obtain ⟨F2, r2⟩ := r1.int hm y (k - 1)
    obtain ⟨F3, r3⟩ := r2.int hm y (k + 1)
    unfold halfV CC.halfL
    exact half_sl hm x y D ks _ _ _ F3 r3
theorem toU_ds (D : List (Key × Int)) : (toU D).map (·.1) = (CC.toW D).map (·.1) ∧ D0s c ((toU D).map (·.2)) ((CC.toW D).map (·.2)) [] [] := by
  refine ⟨by unfold toU CC.toW; rw [List.map_map, List.map_map]; rfl, ?_⟩
  induction D with
  | nil => exact .nil
  | cons q D ih => exact .cons (F := []) (T := []) (.int _) ih
end
theorem dct_at {c : Cf} {E B : Pr} {z : Fl} {kv : List (Key × U)} {w : W} {F : List Nat} (d : D c E B (.dct z kv) w F) : ∃ n kws F0 T0, w = .ref n ∧ c n = some (.dct kws) ∧ kv.map (·.1) = kws.map (·.1) ∧ D0s c (kv.map (·.2)) (kws.map (·.2)) F0 T0 ∧ (n ∈ F ∨ ¬ E n ∨ B n) := by
  obtain ⟨T, Z, d, h1, h2, h3⟩ := d
  cases d with
  | z d => cases d with
    | own e k r => cases k with
      | dct hk => exact ⟨_, _, _, _, rfl, e, hk, r, .inl (List.mem_cons_self ..)⟩
    | shr e k r => cases k with
      | dct hk => exact ⟨_, _, _, _, rfl, e, hk, r, .inr (.inl (h2 _ (List.mem_cons_self ..)))⟩
  | b e k r => cases k with
    | dct hk => exact ⟨_, _, _, _, rfl, e, hk, r, .inr (.inr (h3 _ (List.mem_cons_self ..)))⟩
theorem sim_half {C : Ct} (d f x y : Nat) (hm : C.mp = none) : SimS C (sHalf d f x y) (CC.sHalf C.p d f x y) := fun s l vl E K B Fs r => by
  unfold sHalf
  split
  · rename_i z kv kw e1 e2
    split
    · rename_i D L z1 z2
      split
      · rename_i ks zk
        split
        · rename_i hc
          obtain ⟨df, ⟨dx, dy⟩, ⟨fx, fy⟩, xy, ⟨xl, yl⟩, hl⟩ := hc
          obtain ⟨w1, hw1, d1⟩ := r.has d _ e1
          obtain ⟨w2, hw2, d2⟩ := r.has f _ e2
          have oi := (r.own rfl).1 f
          obtain ⟨m, ob, us, ws, F0, T0, ew, eF, ow⟩ := d2.toOwn oi.1 rfl
          subst ew
          obtain ⟨n, kws, F1, T1, ew1, at1, k1, ds1, own1⟩ := dct_at d1
          subst ew1
          have sh := ow.sh
          have ds := ow.ds
          have at2 := ow.at_
          have mm : m ∈ Fs f := by rw [eF]; exact List.mem_cons_self ..
          have nk : ¬ K m := oi.2 m mm
          have nm : n ≠ m := fun e => by
            rcases own1 with h | h | h
            · exact df ((r.own rfl).2 d f n h (e ▸ mm))
            · exact h (e ▸ (r.ex f m mm).2)
            · exact nk (r.bk m (e ▸ h))
          generalize hus : us = us0 at ds sh
          generalize hob : ob = ob0 at at2 sh
          generalize hws : ws = ws0 at ds sh
          cases sh with
          | @dct _ _ kw2 hk2 =>
            obtain ⟨y1, _, _⟩ := kvs_w z1 k1 ds1
            obtain ⟨y2, _, _⟩ := kvs_w z2 hk2 ds
            subst y1 y2
            obtain ⟨t1, t2⟩ := toU_ds (c := rd C.p s) (halfV x y D ks vl L).2
            obtain ⟨k3, r3⟩ := r.write hw2 eF ow (Sh.dct t1) t2 no List.nodup_nil (fun a m => by cases m)
            obtain ⟨Fs', r4⟩ := half_sl hm x y D ks _ l L _ r3
            refine ⟨_, _, E, Fs', ?_, k3, r4⟩
            unfold CC.sHalf
            rw [hw1, hw2]
            dsimp only
            rw [at1, at2]
            dsimp only
            rw [kvsZ_toW, kvsZ_toW]
            dsimp only
            rw [zk]
            dsimp only
            rw [if_pos ⟨nm, ⟨dx, dy⟩, ⟨fx, fy⟩, xy, by rw [← r.len]; exact ⟨xl, yl⟩, hl⟩, halfV_snd x y D ks vl l L]
        · trivial
      · trivial
    · trivial
  · trivial
end CV
set_option Elab.async false
set_option linter.all false
set_option maxRecDepth 100000
set_option maxHeartbeats 4000000
namespace K46
namespace V
open PySem PySem.Spec PyProof.Rows L2 CV
def v__law_catalan_b1 : VL → RSU :=
    (sEx (eMut 1 mAppend (aCons (vB (eB fSum (aCons (eLc (CC.CTg.nm 3) (iRange1 (eBin gAdd (eVarB 2) (eC (.int 1)))) tTrue (eBin gMul (eBin gIx (eVarB 1) (eVarB 3)) (eBin gIx (eVarB 1) (eBin gSub (eVarB 2) (eVarB 3))))) aNil))) aNil)))
def v__law_catalan : VL → RSU :=
    (sSeq (sAsg (gNm 1) (vB (eLst (aCons (eC (.int 1)) aNil))))
    (sSeq (sFor (gNf 2) (iRange1 (eVarN 0)) v__law_catalan_b1)
    (sRet (vB (eBin gIx (eVarB 1) (eVarB 0))))))
def u__law_catalan : List U → RF := fnV 1 4 v__law_catalan
theorem z__law_catalan : SimF none u__law_catalan m__law_catalan := sim_fn fun C hm => show SimS C v__law_catalan (b__law_catalan C.p) from
    (sim_seq (sim_asg (sim_nm 1 (.inl hm)) (sim_vB (sim_lst (sim_cons sim_int sim_nil))))
    (sim_seq (sim_for (sim_nf 2 (.inl hm)) (rr_it (sim_rr1 (sim_varN 0))) (sim_ex (sim_mut (i := 1) x_mAppend (sim_cons (sim_vB (sim_b x_fSum (sim_cons (sim_lc (.inl hm) (rr_it (sim_rr1 (sim_bin x_gAdd (sim_varB 2) sim_int))) sim_true (sim_bin x_gMul (sim_bin x_gIx (sim_varB 1) (sim_varB 3)) (sim_bin x_gIx (sim_varB 1) (sim_bin x_gSub (sim_varB 2) (sim_varB 3))))) sim_nil))) sim_nil))))
    (sim_ret (sim_vB (sim_bin x_gIx (sim_varB 1) (sim_varB 0))))))
def v__law_half_count_b1 : VL → RSU :=
    (sSeq (sAsg (gNm 4) (vB eDct))
    (sSeq (sHalf 2 4 5 6)
    (sAsg (gNf 2) (eFrz 4))))
def v__law_half_count : VL → RSU :=
    (sSeq (sAsg (gNf 2) (vB (eDis1 (eC (.int 0)) (eC (.int 1)))))
    (sSeq (sFor (gNf 3) (iRange1 (eVarN 0)) v__law_half_count_b1)
    (sRet (vB (eGet2 (eVarB 2) (eVarB 1) (eC (.int 0)))))))
def u__law_half_count : List U → RF := fnV 2 7 v__law_half_count
theorem z__law_half_count : SimF none u__law_half_count m__law_half_count := sim_fn fun C hm => show SimS C v__law_half_count (b__law_half_count C.p) from
    (sim_seq (sim_asg (sim_nf 2 (.inl hm)) (sim_vB (sim_dis1 sim_int sim_int)))
    (sim_seq (sim_for (sim_nf 3 (.inl hm)) (rr_it (sim_rr1 (sim_varN 0))) (sim_seq (sim_asg (sim_nm 4 (.inl hm)) (sim_vB sim_dct))
    (sim_seq (sim_half 2 4 5 6 hm)
    (sim_asg (sim_nf 2 (.inl hm)) (sim_frz 4)))))
    (sim_ret (sim_vB (sim_get2 (sim_varB 2) (sim_varB 1) sim_int)))))
def v__law_pool : VL → RSU :=
    (sSeq (sAsg (gNf 2) (eC (.int 0)))
    (sSeq (sIf (tB (tVal (eBin gLt (eVarB 1) (eB fLen (aCons (eVarB 0) aNil))))) (sAsg (gNf 2) (vB (eB fAbs (aCons (eBin gIx (eVarB 0) (eVarB 1)) aNil)))) sNx)
    (sSeq (sAsg (gNf 3) (vB (eBin gMod (eBin gMul (eBin gAdd (eBin gAdd (eBin gAdd (eBin gMod (eVarB 2) (eC (.int 2147483629))) (eBin gMul (eBin gMul (eC (.int 7919)) (eVarB 1)) (eVarB 1))) (eBin gMul (eC (.int 31)) (eVarB 1))) (eC (.int 17))) (eC (.int 48271))) (eC (.int 2147483647)))))
    (sRet (vB (eLst (aCons (eBin gMul (eVarB 2) (eB fInt (aCons (eBin gGe (eVarB 2) (eBin gPow (eC (.int 10)) (eC (.int 18)))) aNil))) (aCons (eBin gMod (eBin gMul (eVarB 3) (eVarB 3)) (eC (.int 2147483629))) aNil))))))))
def u__law_pool : List U → RF := fnV 2 4 v__law_pool
theorem z__law_pool : SimF none u__law_pool m__law_pool := sim_fn fun C hm => show SimS C v__law_pool (b__law_pool C.p) from
    (sim_seq (sim_asg (sim_nf 2 (.inl hm)) sim_int)
    (sim_seq (sim_sif (sim_tB (sim_val (sim_bin x_gLt (sim_varB 1) (sim_b x_fLen (sim_cons (sim_varB 0) sim_nil))))) (sim_asg (sim_nf 2 (.inl hm)) (sim_vB (sim_b x_fAbs (sim_cons (sim_bin x_gIx (sim_varB 0) (sim_varB 1)) sim_nil)))) sim_nx)
    (sim_seq (sim_asg (sim_nf 3 (.inl hm)) (sim_vB (sim_bin x_gMod (sim_bin x_gMul (sim_bin x_gAdd (sim_bin x_gAdd (sim_bin x_gAdd (sim_bin x_gMod (sim_varB 2) sim_int) (sim_bin x_gMul (sim_bin x_gMul sim_int (sim_varB 1)) (sim_varB 1))) (sim_bin x_gMul sim_int (sim_varB 1))) sim_int) sim_int) sim_int)))
    (sim_ret (sim_vB (sim_lst (sim_cons (sim_bin x_gMul (sim_varB 2) (sim_b x_fInt (sim_cons (sim_bin x_gGe (sim_varB 2) (sim_bin x_gPow sim_int sim_int)) sim_nil))) (sim_cons (sim_bin x_gMod (sim_bin x_gMul (sim_varB 3) (sim_varB 3)) sim_int) sim_nil))))))))
def v_is_integer : VL → RSU :=
    (sRet (vB (eAndV (eIsi (CC.qInt []) (eVarB 0)) (eAndV (eNotV (eIsi (CC.qBool []) (eVarB 0))) (eBin gGe (eVarB 0) (eVarB 1))))))
def u_is_integer : List U → RF := fnV 2 2 v_is_integer
theorem z_is_integer : SimF none u_is_integer m_is_integer := sim_fn fun C hm => show SimS C v_is_integer (b_is_integer C.p) from
    (sim_ret (sim_vB (sim_andV (sim_isi (sim_varB 0)) (sim_andV (sim_notV (sim_isi (sim_varB 0))) (sim_bin x_gGe (sim_varB 0) (sim_varB 1))))))
def v_is_columns : VL → RSU :=
    (sRet (vB (eAndV (eCall u_is_integer [] (aCons (eVarB 0) (aCons (eC (.int 1)) aNil))) (eBin gLe (eVarB 0) (eC (.int 16))))))
def u_is_columns : List U → RF := fnV 1 1 v_is_columns
theorem z_is_columns : SimF none u_is_columns m_is_columns := sim_fn fun C hm => show SimS C v_is_columns (b_is_columns C.p) from
    (sim_ret (sim_vB (sim_andV (sim_call z_is_integer dsc_nil (sim_cons (sim_varB 0) (sim_cons sim_int sim_nil))) (sim_bin x_gLe (sim_varB 0) sim_int))))
def v_check_columns : VL → RSU :=
    (sIf (tB (tNotT (tVal (eCall u_is_columns [] (aCons (eVarB 0) aNil))))) (sRaise 1 (eVarN 0)) sNx)
def u_check_columns : List U → RF := fnV 1 1 v_check_columns
theorem z_check_columns : SimF none u_check_columns m_check_columns := sim_fn fun C hm => show SimS C v_check_columns (b_check_columns C.p) from
    (sim_sif (sim_tB (sim_notT (sim_val (sim_call z_is_columns dsc_nil (sim_cons (sim_varB 0) sim_nil))))) (sim_raise (sim_varN 0)) sim_nx)
def v_binomial_b1 : VL → RSU :=
    (sAsg (gNm 2) (vB (eBin gFdiv (eBin gMul (eVarB 2) (eBin gSub (eVarB 0) (eVarB 3))) (eBin gAdd (eVarB 3) (eC (.int 1))))))
def v_binomial : VL → RSU :=
    (sSeq (sIf (tB (tVal (eBin gLt (eVarB 1) (eC (.int 0))))) (sRet (eC (.int 0))) sNx)
    (sSeq (sAsg (gNm 2) (eC (.int 1)))
    (sSeq (sFor (gNf 3) (iRange1 (eVarN 1)) v_binomial_b1)
    (sRet (eMov 2)))))
def u_binomial : List U → RF := fnV 2 4 v_binomial
theorem z_binomial : SimF none u_binomial m_binomial := sim_fn fun C hm => show SimS C v_binomial (b_binomial C.p) from
    (sim_seq (sim_sif (sim_tB (sim_val (sim_bin x_gLt (sim_varB 1) sim_int))) (sim_ret sim_int) sim_nx)
    (sim_seq (sim_asg (sim_nm 2 (.inl hm)) sim_int)
    (sim_seq (sim_for (sim_nf 3 (.inl hm)) (rr_it (sim_rr1 (sim_varN 1))) (sim_asg (sim_nm 2 (.inl hm)) (sim_vB (sim_bin x_gFdiv (sim_bin x_gMul (sim_varB 2) (sim_bin x_gSub (sim_varB 0) (sim_varB 3))) (sim_bin x_gAdd (sim_varB 3) sim_int)))))
    (sim_ret (sim_mov 2)))))
def v_count_pairings : VL → RSU :=
    (sSeq (sAsg (gNf 1) (vB (eBin gFdiv (eVarB 0) (eC (.int 2)))))
    (sRet (vB (eBin gFdiv (eCall u_binomial [] (aCons (eVarB 0) (aCons (eVarB 1) aNil))) (eBin gAdd (eVarB 1) (eC (.int 1)))))))
def u_count_pairings : List U → RF := fnV 1 2 v_count_pairings
theorem z_count_pairings : SimF none u_count_pairings m_count_pairings := sim_fn fun C hm => show SimS C v_count_pairings (b_count_pairings C.p) from
    (sim_seq (sim_asg (sim_nf 1 (.inl hm)) (sim_vB (sim_bin x_gFdiv (sim_varB 0) sim_int)))
    (sim_ret (sim_vB (sim_bin x_gFdiv (sim_call z_binomial dsc_nil (sim_cons (sim_varB 0) (sim_cons (sim_varB 1) sim_nil))) (sim_bin x_gAdd (sim_varB 1) sim_int)))))
def v_count_diagrams : VL → RSU :=
    (sSeq (sEx (vB (eCall u_check_columns [] (aCons (eVarB 0) aNil))))
    (sRet (vB (eCall u_count_pairings [] (aCons (eBin gMul (eC (.int 2)) (eVarB 0)) aNil)))))
def u_count_diagrams : List U → RF := fnV 1 1 v_count_diagrams
theorem z_count_diagrams : SimF none u_count_diagrams m_count_diagrams := sim_fn fun C hm => show SimS C v_count_diagrams (b_count_diagrams C.p) from
    (sim_seq (sim_ex (sim_vB (sim_call z_check_columns dsc_nil (sim_cons (sim_varB 0) sim_nil))))
    (sim_ret (sim_vB (sim_call z_count_pairings dsc_nil (sim_cons (sim_bin x_gMul sim_int (sim_varB 0)) sim_nil)))))
def v_count_with_through : VL → RSU :=
    (sSeq (sEx (vB (eCall u_check_columns [] (aCons (eVarB 0) aNil))))
    (sSeq (sIf (tB (tNotT (tVal (eCall u_is_integer [(.int 0)] (aCons (eVarB 1) aNil))))) (sRaise 2 (eVarN 1)) sNx)
    (sSeq (sIf (tB (tOrT (tVal (eBin gGt (eVarB 1) (eVarB 0))) (tVal (eBin gEq (eBin gMod (eBin gSub (eVarB 0) (eVarB 1)) (eC (.int 2))) (eC (.int 1)))))) (sRet (eC (.int 0))) sNx)
    (sSeq (sAsg (gNf 2) (vB (eBin gFdiv (eBin gSub (eVarB 0) (eVarB 1)) (eC (.int 2)))))
    (sRet (vB (eBin gPow (eBin gSub (eCall u_binomial [] (aCons (eVarB 0) (aCons (eVarB 2) aNil))) (eCall u_binomial [] (aCons (eVarB 0) (aCons (eBin gSub (eVarB 2) (eC (.int 1))) aNil)))) (eC (.int 2)))))))))
def u_count_with_through : List U → RF := fnV 2 3 v_count_with_through
theorem z_count_with_through : SimF none u_count_with_through m_count_with_through := sim_fn fun C hm => show SimS C v_count_with_through (b_count_with_through C.p) from
    (sim_seq (sim_ex (sim_vB (sim_call z_check_columns dsc_nil (sim_cons (sim_varB 0) sim_nil))))
    (sim_seq (sim_sif (sim_tB (sim_notT (sim_val (sim_call z_is_integer (dsc_int dsc_nil) (sim_cons (sim_varB 1) sim_nil))))) (sim_raise (sim_varN 1)) sim_nx)
    (sim_seq (sim_sif (sim_tB (sim_orT (sim_val (sim_bin x_gGt (sim_varB 1) (sim_varB 0))) (sim_val (sim_bin x_gEq (sim_bin x_gMod (sim_bin x_gSub (sim_varB 0) (sim_varB 1)) sim_int) sim_int)))) (sim_ret sim_int) sim_nx)
    (sim_seq (sim_asg (sim_nf 2 (.inl hm)) (sim_vB (sim_bin x_gFdiv (sim_bin x_gSub (sim_varB 0) (sim_varB 1)) sim_int)))
    (sim_ret (sim_vB (sim_bin x_gPow (sim_bin x_gSub (sim_call z_binomial dsc_nil (sim_cons (sim_varB 0) (sim_cons (sim_varB 2) sim_nil))) (sim_call z_binomial dsc_nil (sim_cons (sim_varB 0) (sim_cons (sim_bin x_gSub (sim_varB 2) sim_int) sim_nil)))) sim_int)))))))
def v__law_result : VL → RSU :=
    (sTry (sRet (vB (eIf (tVal (eBin gEq (eVarB 0) (eC (.int 0)))) (eCall u_count_diagrams [] (aCons (eVarB 1) aNil)) (eCall u_count_with_through [] (aCons (eVarB 1) (aCons (eVarB 2) aNil)))))) [⟨1, [2], some 3, fun u => (sRet (vB (eTup (aCons (eC (.str "columns")) (aCons (eB fRepr (aCons (eC u) aNil)) (aCons (eAndV (eC (.bl true)) (eNotV (eC (.bl false)))) aNil))))))⟩, ⟨2, [1], some 3, fun u => (sRet (vB (eTup (aCons (eC (.str "number")) (aCons (eB fRepr (aCons (eC u) aNil)) (aCons (eAndV (eC (.bl true)) (eNotV (eC (.bl false)))) aNil))))))⟩])
def u__law_result : List U → RF := fnV 3 4 v__law_result
theorem z__law_result : SimF none u__law_result m__law_result := sim_fn fun C hm => show SimS C v__law_result (b__law_result C.p) from
    (sim_try (sim_ret (sim_vB (sim_if (sim_val (sim_bin x_gEq (sim_varB 0) sim_int)) (sim_call z_count_diagrams dsc_nil (sim_cons (sim_varB 1) sim_nil)) (sim_call z_count_with_through dsc_nil (sim_cons (sim_varB 1) (sim_cons (sim_varB 2) sim_nil)))))) (SimH.named (.inl hm) (fun u w => (sim_ret (sim_vB (sim_tup (sim_cons sim_str (sim_cons (sim_b x_fRepr (sim_cons (sim_aux (List.mem_cons_self ..)) sim_nil)) (sim_cons (sim_andV sim_bl (sim_notV sim_bl)) sim_nil))))))) (SimH.named (.inl hm) (fun u w => (sim_ret (sim_vB (sim_tup (sim_cons sim_str (sim_cons (sim_b x_fRepr (sim_cons (sim_aux (List.mem_cons_self ..)) sim_nil)) (sim_cons (sim_andV sim_bl (sim_notV sim_bl)) sim_nil))))))) SimH.nil)))
def v__law_take : VL → RSU :=
    (sSeq (sIf (tB (tVal (eBin gGt (eBin gIx (eVarB 0) (eC (.int 0))) (eC (.int 0))))) (sSeq (sAsg (gNm 2) (vB (eBin gMod (eBin gIx (eVarB 0) (eC (.int 0))) (eVarB 1))))
    (sSeq (sAsg (gFz (gSt 0 (eC (.int 0)))) (vB (eBin gFdiv (eBin gIx (eVarB 0) (eC (.int 0))) (eVarB 1))))
    (sRet (eMov 2)))) sNx)
    (sSeq (sAsg (gFz (gSt 0 (eC (.int 1)))) (vB (eBin gMod (eBin gAdd (eBin gMul (eBin gIx (eVarB 0) (eC (.int 1))) (eC (.int 48271))) (eC (.int 12345))) (eC (.int 2147483647)))))
    (sRet (vB (eBin gMod (eBin gFdiv (eBin gMod (eBin gMul (eBin gIx (eVarB 0) (eC (.int 1))) (eBin gIx (eVarB 0) (eC (.int 1)))) (eC (.int 2147483629))) (eC (.int 64))) (eVarB 1))))))
def u__law_take : List U → RF := fnM 0 2 3 v__law_take
theorem z__law_take : SimF (some 0) u__law_take m__law_take := sim_fnM (by decide) fun C hm => show SimS C v__law_take (b__law_take C.p) from
    (sim_seq (sim_sif (sim_tB (sim_val (sim_bin x_gGt (sim_bin x_gIx (sim_varB 0) sim_int) sim_int))) (sim_seq (sim_asg (sim_nm 2 (.inr (show 2 ≠ C.mi by rw [hm]; decide))) (sim_vB (sim_bin x_gMod (sim_bin x_gIx (sim_varB 0) sim_int) (sim_varB 1))))
    (sim_seq (sim_asg (sim_fz (sim_sub (i := 0) sim_int)) (sim_vB (sim_bin x_gFdiv (sim_bin x_gIx (sim_varB 0) sim_int) (sim_varB 1))))
    (sim_ret (sim_mov 2)))) sim_nx)
    (sim_seq (sim_asg (sim_fz (sim_sub (i := 0) sim_int)) (sim_vB (sim_bin x_gMod (sim_bin x_gAdd (sim_bin x_gMul (sim_bin x_gIx (sim_varB 0) sim_int) sim_int) sim_int) sim_int)))
    (sim_ret (sim_vB (sim_bin x_gMod (sim_bin x_gFdiv (sim_bin x_gMod (sim_bin x_gMul (sim_bin x_gIx (sim_varB 0) sim_int) (sim_bin x_gIx (sim_varB 0) sim_int)) sim_int) sim_int) (sim_varB 1))))))
def v_law_b2 : VL → RSU :=
    (sIf (tB (tVal (eBin gNe (eCall u__law_result [] (aCons (eVarB 7) (aCons (eVarB 6) (aCons (eC .non) aNil)))) (eTup (aCons (eC (.str "columns")) (aCons (eB fRepr (aCons (eVarB 6) aNil)) (aCons (eC (.bl true)) aNil))))))) (sRet (eC (.bl false))) sNx)
def v_law_b1 : VL → RSU :=
    (sSeq (sAsg (gNm 2) (vB (eCall u__law_pool [] (aCons (eVarB 0) (aCons (eVarB 1) aNil)))))
    (sSeq (sAsg (gNf 3) (eBin gAdd (eC (.int 1)) (eCallM 2 u__law_take [] (aCons (eC (.int 16)) aNil))))
    (sSeq (sAsg (gNf 4) (vB (eLc (CC.CTg.nm 8) (iRange1 (eBin gAdd (eVarB 3) (eC (.int 3)))) tTrue (eCall u__law_result [] (aCons (eC (.int 1)) (aCons (eVarB 3) (aCons (eVarB 8) aNil)))))))
    (sSeq (sAsg (gNf 5) (vB (eLc (CC.CTg.nm 8) (iRange1 (eBin gAdd (eVarB 3) (eC (.int 3)))) tTrue (eCall u__law_half_count [] (aCons (eVarB 3) (aCons (eVarB 8) aNil))))))
    (sSeq (sIf (tB (tVal (eBin gNe (eB fRepr (aCons (eVarB 4) aNil)) (eB fRepr (aCons (eLc (CC.CTg.nm 9) (iSeq (eVarB 5)) tTrue (eBin gMul (eVarB 9) (eVarB 9))) aNil))))) (sRet (eC (.bl false))) sNx)
    (sSeq (sIf (tB (tOrT (tVal (eBin gNe (eB fRepr (aCons (eCall u__law_result [] (aCons (eC (.int 0)) (aCons (eVarB 3) (aCons (eC .non) aNil)))) aNil)) (eB fRepr (aCons (eCall u__law_catalan [] (aCons (eVarB 3) aNil)) aNil)))) (tVal (eBin gNe (eB fSum (aCons (eVarB 4) aNil)) (eCall u__law_catalan [] (aCons (eVarB 3) aNil)))))) (sRet (eC (.bl false))) sNx)
    (sSeq (sIf (tVal (eBin gNe (eCall u__law_result [] (aCons (eC (.int 1)) (aCons (eVarN 3) (aCons (eBin gAdd (vB (eBin gPow (eC (.int 10)) (eC (.int 20)))) (eCallM 2 u__law_take [] (aCons (eC (.int 9)) aNil))) aNil)))) (eC (.int 0)))) (sRet (eC (.bl false))) sNx)
    (sSeq (sAsg (gNf 6) (eBin gIx (vB (eLst (aCons (eC .non) (aCons (eC (.int 0)) (aCons (eC (.int 17)) (aCons (eC (.bl true)) (aCons (eC (.str "3")) (aCons (eTup (aCons (eC (.int 3)) aNil)) (aCons (eUn gNeg (eC (.int 1))) (aCons (eBin gPow (eC (.int 10)) (eC (.int 20))) aNil)))))))))) (eCallM 2 u__law_take [] (aCons (eC (.int 8)) aNil))))
    (sSeq (sFor (gNf 7) (iSeq (vB (eLst (aCons (eC (.int 0)) (aCons (eC (.int 1)) aNil))))) v_law_b2)
    (sSeq (sAsg (gNf 6) (eBin gIx (vB (eLst (aCons (eC .non) (aCons (eUn gNeg (eC (.int 1))) (aCons (eC (.bl true)) (aCons (eC (.bl false)) (aCons (eC (.str "0")) (aCons (eTup (aCons (eC (.int 0)) aNil)) (aCons (eLst (aCons (eC (.int 2)) aNil)) aNil))))))))) (eCallM 2 u__law_take [] (aCons (eC (.int 7)) aNil))))
    (sIf (tB (tVal (eBin gNe (eCall u__law_result [] (aCons (eC (.int 1)) (aCons (eVarB 3) (aCons (eVarB 6) aNil)))) (eTup (aCons (eC (.str "number")) (aCons (eB fRepr (aCons (eVarB 6) aNil)) (aCons (eC (.bl true)) aNil))))))) (sRet (eC (.bl false))) sNx)))))))))))
def v_law : VL → RSU :=
    (sSeq (sFor (gNf 1) (iRange1 (vB (eB fMax2 (aCons (eC (.int 1)) (aCons (eB fMin2 (aCons (eC (.int 8)) (aCons (eB fLen (aCons (eVarB 0) aNil)) aNil))) aNil))))) v_law_b1)
    (sRet (eC (.bl true))))
def u_law : List U → RF := fnV 1 10 v_law
theorem z_law : SimF none u_law m_law := sim_fn fun C hm => show SimS C v_law (b_law C.p) from
    (sim_seq (sim_for (sim_nf 1 (.inl hm)) (rr_it (sim_rr1 (sim_vB (sim_b x_fMax2 (sim_cons sim_int (sim_cons (sim_b x_fMin2 (sim_cons sim_int (sim_cons (sim_b x_fLen (sim_cons (sim_varB 0) sim_nil)) sim_nil))) sim_nil)))))) (sim_seq (sim_asg (sim_nm 2 (.inl hm)) (sim_vB (sim_call z__law_pool dsc_nil (sim_cons (sim_varB 0) (sim_cons (sim_varB 1) sim_nil)))))
    (sim_seq (sim_asg (sim_nf 3 (.inl hm)) (sim_bin x_gAdd sim_int (sim_callM (i := 2) z__law_take dsc_nil (sim_cons sim_int sim_nil))))
    (sim_seq (sim_asg (sim_nf 4 (.inl hm)) (sim_vB (sim_lc (.inl hm) (rr_it (sim_rr1 (sim_bin x_gAdd (sim_varB 3) sim_int))) sim_true (sim_call z__law_result dsc_nil (sim_cons sim_int (sim_cons (sim_varB 3) (sim_cons (sim_varB 8) sim_nil)))))))
    (sim_seq (sim_asg (sim_nf 5 (.inl hm)) (sim_vB (sim_lc (.inl hm) (rr_it (sim_rr1 (sim_bin x_gAdd (sim_varB 3) sim_int))) sim_true (sim_call z__law_half_count dsc_nil (sim_cons (sim_varB 3) (sim_cons (sim_varB 8) sim_nil))))))
    (sim_seq (sim_sif (sim_tB (sim_val (sim_bin x_gNe (sim_b x_fRepr (sim_cons (sim_varB 4) sim_nil)) (sim_b x_fRepr (sim_cons (sim_lc (.inl hm) (sim_seqI (sim_varB 5)) sim_true (sim_bin x_gMul (sim_varB 9) (sim_varB 9))) sim_nil))))) (sim_ret sim_bl) sim_nx)
    (sim_seq (sim_sif (sim_tB (sim_orT (sim_val (sim_bin x_gNe (sim_b x_fRepr (sim_cons (sim_call z__law_result dsc_nil (sim_cons sim_int (sim_cons (sim_varB 3) (sim_cons sim_non sim_nil)))) sim_nil)) (sim_b x_fRepr (sim_cons (sim_call z__law_catalan dsc_nil (sim_cons (sim_varB 3) sim_nil)) sim_nil)))) (sim_val (sim_bin x_gNe (sim_b x_fSum (sim_cons (sim_varB 4) sim_nil)) (sim_call z__law_catalan dsc_nil (sim_cons (sim_varB 3) sim_nil)))))) (sim_ret sim_bl) sim_nx)
    (sim_seq (sim_sif (sim_val (sim_bin x_gNe (sim_call z__law_result dsc_nil (sim_cons sim_int (sim_cons (sim_varN 3) (sim_cons (sim_bin x_gAdd (sim_vB (sim_bin x_gPow sim_int sim_int)) (sim_callM (i := 2) z__law_take dsc_nil (sim_cons sim_int sim_nil))) sim_nil)))) sim_int)) (sim_ret sim_bl) sim_nx)
    (sim_seq (sim_asg (sim_nf 6 (.inl hm)) (sim_bin x_gIx (sim_vB (sim_lst (sim_cons sim_non (sim_cons sim_int (sim_cons sim_int (sim_cons sim_bl (sim_cons sim_str (sim_cons (sim_tup (sim_cons sim_int sim_nil)) (sim_cons (sim_un x_gNeg sim_int) (sim_cons (sim_bin x_gPow sim_int sim_int) sim_nil)))))))))) (sim_callM (i := 2) z__law_take dsc_nil (sim_cons sim_int sim_nil))))
    (sim_seq (sim_for (sim_nf 7 (.inl hm)) (sim_seqI (sim_vB (sim_lst (sim_cons sim_int (sim_cons sim_int sim_nil))))) (sim_sif (sim_tB (sim_val (sim_bin x_gNe (sim_call z__law_result dsc_nil (sim_cons (sim_varB 7) (sim_cons (sim_varB 6) (sim_cons sim_non sim_nil)))) (sim_tup (sim_cons sim_str (sim_cons (sim_b x_fRepr (sim_cons (sim_varB 6) sim_nil)) (sim_cons sim_bl sim_nil))))))) (sim_ret sim_bl) sim_nx))
    (sim_seq (sim_asg (sim_nf 6 (.inl hm)) (sim_bin x_gIx (sim_vB (sim_lst (sim_cons sim_non (sim_cons (sim_un x_gNeg sim_int) (sim_cons sim_bl (sim_cons sim_bl (sim_cons sim_str (sim_cons (sim_tup (sim_cons sim_int sim_nil)) (sim_cons (sim_lst (sim_cons sim_int sim_nil)) sim_nil))))))))) (sim_callM (i := 2) z__law_take dsc_nil (sim_cons sim_int sim_nil))))
    (sim_sif (sim_tB (sim_val (sim_bin x_gNe (sim_call z__law_result dsc_nil (sim_cons sim_int (sim_cons (sim_varB 3) (sim_cons (sim_varB 6) sim_nil)))) (sim_tup (sim_cons sim_str (sim_cons (sim_b x_fRepr (sim_cons (sim_varB 6) sim_nil)) (sim_cons sim_bl sim_nil))))))) (sim_ret sim_bl) sim_nx))))))))))))
    (sim_ret sim_bl))
theorem yes (ns : List Int) (h : ∃ o, u_law [.frz ns] = .ok (.bl true) o) : CC.Yes (m_law [.frz ns] [.ref 0]) := by
  obtain ⟨o, h⟩ := h
  exact yes_of z_law h
end V
end K46
set_option Elab.async false
/-! CCNC: noncrossing partners, in plain Lean: the walk along the border with a stack comes back -/
namespace CCNC
/-- xs, read in turn, is balanced by the partners f -/
inductive NC (f : Nat → Nat) : List Nat → Prop
  | nil : NC f []
  | cons {a b : Nat} {xs ys : List Nat} (hx : NC f xs) (hy : NC f ys) (ab : f a = b) (ba : f b = a) : NC f (a :: (xs ++ b :: ys))
/-- one point of the walk: stack and what was seen -/
def step (f : Nat → Nat) (c : List Nat × List Nat) (x : Nat) : Option (List Nat × List Nat) :=
  if f x ∈ c.2 then (match c.1 with
    | t :: st => if t = f x then some (st, x :: c.2) else none
    | [] => none)
  else some (x :: c.1, x :: c.2)
def walk (f : Nat → Nat) : List Nat × List Nat → List Nat → Option (List Nat × List Nat)
  | c, [] => some c
  | c, x :: r => match step f c x with
    | some c' => walk f c' r
    | none => none
theorem walk_app (f : Nat → Nat) : ∀ (xs ys : List Nat) (c c' : List Nat × List Nat), walk f c xs = some c' → walk f c (xs ++ ys) = walk f c' ys
  | [], ys, c, c', h => by cases h; rfl
  | x :: r, ys, c, c', h => by
    show (match step f c x with | some c' => walk f c' (r ++ ys) | none => none) = _
    unfold walk at h
    cases q : step f c x with
    | none => rw [q] at h; cases h
    | some c1 => rw [q] at h; exact walk_app f r ys c1 c' h
theorem NC.walks {f : Nat → Nat} {xs : List Nat} (h : NC f xs) : ∀ (st seen : List Nat), xs.Nodup → (∀ x, x ∈ xs → x ∉ seen) → walk f (st, seen) xs = some (st, xs.reverse ++ seen) := by
  induction h with
  | nil => intro st seen _ _; rfl
  | @cons a b xs ys hx hy ab ba ihx ihy =>
    intro st seen nd hs
    obtain ⟨na, nd2⟩ := List.nodup_cons.mp nd
    obtain ⟨ndx, ndy2, dis⟩ := List.nodup_append.mp nd2
    obtain ⟨nb, ndy⟩ := List.nodup_cons.mp ndy2
    have hb : b ∉ seen := hs b (by simp)
    have e1 : step f (st, seen) a = some (a :: st, a :: seen) := by
      unfold step
      rw [if_neg (by rw [ab]; exact hb)]
    have e2 := ihx (a :: st) (a :: seen) ndx (fun x hx' => by
      intro m
      rcases List.mem_cons.mp m with rfl | m
      · exact na (List.mem_append_left _ hx')
      · exact hs x (by simp [hx']) m)
    have e3 : step f (a :: st, xs.reverse ++ a :: seen) b = some (st, b :: (xs.reverse ++ a :: seen)) := by
      unfold step
      rw [ba, if_pos (by simp)]
      show (if a = a then _ else _) = _
      rw [if_pos rfl]
    have e4 := ihy st (b :: (xs.reverse ++ a :: seen)) ndy (fun y hy' => by
      intro m
      simp only [List.mem_cons, List.mem_append, List.mem_reverse] at m
      rcases m with rfl | m | rfl | m
      · exact nb hy'
      · exact dis y m y (List.mem_cons_of_mem _ hy') rfl
      · exact na (by simp [hy'])
      · exact hs y (by simp [hy']) m)
    show (match step f (st, seen) a with | some c' => walk f c' (xs ++ b :: ys) | none => none) = _
    rw [e1]
    show walk f (a :: st, a :: seen) (xs ++ b :: ys) = _
    rw [walk_app f xs (b :: ys) _ _ e2]
    show (match step f (a :: st, xs.reverse ++ a :: seen) b with | some c' => walk f c' ys | none => none) = _
    rw [e3]
    show walk f (st, b :: (xs.reverse ++ a :: seen)) ys = _
    rw [e4]
    simp
/-- only f's values on the points matter -/
theorem NC.congr {f g : Nat → Nat} {xs : List Nat} (h : NC f xs) : (∀ x, x ∈ xs → g x = f x) → NC g xs := by
  induction h with
  | nil => intro _; exact .nil
  | @cons a b xs ys hx hy ab ba ihx ihy =>
    intro e
    exact .cons (ihx fun x m => e x (by simp [m])) (ihy fun x m => e x (by simp [m])) (by rw [e a (by simp), ab]) (by rw [e b (by simp), ba])
theorem NC.invol {f : Nat → Nat} {xs : List Nat} (h : NC f xs) : ∀ x, x ∈ xs → f x ∈ xs ∧ f (f x) = x := by
  induction h with
  | nil => intro x m; cases m
  | @cons a b xs ys hx hy ab ba ihx ihy =>
    intro x m
    simp only [List.mem_cons, List.mem_append] at m
    rcases m with rfl | m | rfl | m
    · exact ⟨by rw [ab]; simp, by rw [ab, ba]⟩
    · exact ⟨by have := (ihx x m).1; simp [this], (ihx x m).2⟩
    · exact ⟨by rw [ba]; simp, by rw [ba, ab]⟩
    · exact ⟨by have := (ihy x m).1; simp [this], (ihy x m).2⟩
theorem NC.ne {f : Nat → Nat} {xs : List Nat} (h : NC f xs) : xs.Nodup → ∀ x, x ∈ xs → f x ≠ x := by
  induction h with
  | nil => intro _ x m; cases m
  | @cons a b xs ys hx hy ab ba ihx ihy =>
    intro nd x m
    obtain ⟨na, nd2⟩ := List.nodup_cons.mp nd
    obtain ⟨ndx, ndy2, dis⟩ := List.nodup_append.mp nd2
    obtain ⟨nb, ndy⟩ := List.nodup_cons.mp ndy2
    simp only [List.mem_cons, List.mem_append] at m
    rcases m with rfl | m | rfl | m
    · rw [ab]; rintro rfl; exact na (by simp)
    · exact ihx ndx x m
    · rw [ba]; rintro rfl; exact na (by simp)
    · exact ihy ndy x m
/-- two points joined -/
def upd2 (f : Nat → Nat) (a b : Nat) : Nat → Nat := fun x => if x = a then b else if x = b then a else f x
/-- regions (the next one first) are cut up one after another, in whatever way -/
inductive Run : List (List Nat) → (Nat → Nat) → (Nat → Nat) → Prop
  | nil {f : Nat → Nat} : Run [] f f
  | empty {S : List (List Nat)} {f g : Nat → Nat} (h : Run S f g) : Run ([] :: S) f g
  | split {a b : Nat} {xs ys : List Nat} {S : List (List Nat)} {f g : Nat → Nat} (h : Run (ys :: xs :: S) (upd2 f a b) g) : Run ((a :: (xs ++ b :: ys)) :: S) f g
theorem Run.nc {S : List (List Nat)} {f g : Nat → Nat} (h : Run S f g) : S.flatten.Nodup → (∀ R, R ∈ S → NC g R) ∧ ∀ x, x ∉ S.flatten → g x = f x := by
  induction h with
  | nil => intro _; exact ⟨fun R m => (nomatch m), fun _ _ => rfl⟩
  | @empty S f g h ih =>
    intro nd
    obtain ⟨h1, h2⟩ := ih (by simpa using nd)
    refine ⟨fun R m => ?_, fun x hx => h2 x (by simpa using hx)⟩
    rcases List.mem_cons.mp m with rfl | m
    · exact .nil
    · exact h1 R m
  | @split a b xs ys S f g h ih =>
    intro nd
    have p : (((a :: (xs ++ b :: ys)) :: S).flatten).Perm (a :: b :: ((ys :: xs :: S).flatten)) := by
      simp only [List.flatten_cons, List.cons_append, List.append_assoc]
      refine .cons a ?_
      refine (List.perm_append_comm_assoc xs (b :: ys) S.flatten).trans ?_
      exact .refl _
    have nd2 := (p.nodup_iff).mp nd
    obtain ⟨na, nd3⟩ := List.nodup_cons.mp nd2
    obtain ⟨nb, nd4⟩ := List.nodup_cons.mp nd3
    obtain ⟨h1, h2⟩ := ih nd4
    have nab : a ≠ b := fun e => na (by rw [e]; simp)
    have ea : g a = b := by
      rw [h2 a (fun m => na (List.mem_cons_of_mem _ m))]
      unfold upd2
      rw [if_pos rfl]
    have eb : g b = a := by
      rw [h2 b nb]
      unfold upd2
      rw [if_neg (fun e => nab e.symm), if_pos rfl]
    refine ⟨fun R m => ?_, fun x hx => ?_⟩
    · rcases List.mem_cons.mp m with rfl | m
      · exact .cons (h1 xs (by simp)) (h1 ys (by simp)) ea eb
      · exact h1 R (by simp [m])
    · have hx2 : x ∉ a :: b :: ((ys :: xs :: S).flatten) := fun m => hx (p.mem_iff.mpr m)
      rw [h2 x (fun m => hx2 (by simp; right; right; simpa using m))]
      unfold upd2
      rw [if_neg (fun e => hx2 (by rw [e]; simp)), if_neg (fun e => hx2 (by rw [e]; simp))]
/-- the points along the border: 0 .. c-1, then 2c-1 down to c -/
def border (c : Nat) : List Nat := List.range c ++ (List.range c).map fun i => 2 * c - 1 - i
theorem border_length (c : Nat) : (border c).length = 2 * c := by
  unfold border; simp; omega
theorem border_mem (c x : Nat) : x ∈ border c ↔ x < 2 * c := by
  unfold border
  simp only [List.mem_append, List.mem_range, List.mem_map]
  constructor
  · rintro (h | ⟨i, h, rfl⟩) <;> omega
  · intro h
    by_cases hx : x < c
    · exact .inl hx
    · exact .inr ⟨2 * c - 1 - x, by omega, by omega⟩
theorem border_nodup (c : Nat) : (border c).Nodup := by
  unfold border
  refine List.nodup_append.mpr ⟨List.nodup_range, ?_, fun a ha b hb => ?_⟩
  · rw [List.nodup_iff_pairwise_ne, List.pairwise_map]
    refine List.Pairwise.imp_of_mem ?_ (List.nodup_iff_pairwise_ne.mp (List.nodup_range (n := c)))
    intro i j hi hj ne e
    have := List.mem_range.mp hi
    have := List.mem_range.mp hj
    omega
  · have := List.mem_range.mp ha
    obtain ⟨i, hi, rfl⟩ := List.mem_map.mp hb
    have := List.mem_range.mp hi
    omega
/-- what the generator of diagrams makes: partners of a noncrossing diagram -/
theorem made {c : Nat} {f g : Nat → Nat} (h : Run [border c] f g) : NC g (border c) :=
  (h.nc (by simpa using border_nodup c)).1 _ (by simp)
/-- .. each point has another one below 2c as its partner, and is that one's partner -/
theorem made_ok {c : Nat} {g : Nat → Nat} (h : NC g (border c)) {x : Nat} (hx : x < 2 * c) : g x < 2 * c ∧ g (g x) = x ∧ g x ≠ x := by
  have m := (border_mem c x).mpr hx
  exact ⟨(border_mem c _).mp (h.invol x m).1, (h.invol x m).2, h.ne (border_nodup c) x m⟩
/-- .. and the walk along the border comes back with an empty stack -/
theorem made_walk {c : Nat} {g : Nat → Nat} (h : NC g (border c)) : walk g ([], []) (border c) = some ([], (border c).reverse) := by
  have := h.walks [] [] (border_nodup c) (fun _ _ m => (nomatch m))
  simpa using this
end CCNC
set_option Elab.async false
set_option linter.all false
set_option maxRecDepth 100000
/-! CVD: values as data: numbers, lists of numbers -/
namespace CV
open PySem PySem.Spec PyProof.Rows L2
open CC (mapO)
/-- data of a depth of at most k -/
def dOk (k : Nat) (d : PyData) : Bool := d.canLay0 && decide (d.depth ≤ k)
theorem shaped_of {k : Nat} {d : PyData} (h : dOk k d = true) (hk : k ≤ 64) : SeqAt.shaped d = true := by
  unfold dOk at h
  unfold SeqAt.shaped
  rw [Bool.and_eq_true] at h ⊢
  exact ⟨h.1, decide_eq_true (Nat.le_trans (of_decide_eq_true h.2) hk)⟩
theorem all_dOk {k : Nat} : ∀ {ds : List PyData}, (∀ d ∈ ds, dOk k d = true) → PyData.canLayAll0 ds = true ∧ PyData.depthAll ds ≤ k
  | [], _ => ⟨rfl, Nat.zero_le _⟩
  | d :: ds, h => by
    obtain ⟨h1, h2⟩ := all_dOk (ds := ds) fun x m => h x (List.mem_cons_of_mem _ m)
    have h0 := h d (List.mem_cons_self ..)
    unfold dOk at h0
    rw [Bool.and_eq_true] at h0
    refine ⟨?_, ?_⟩
    · unfold PyData.canLayAll0
      rw [h0.1, h1]; rfl
    · unfold PyData.depthAll
      exact Nat.max_le.mpr ⟨of_decide_eq_true h0.2, h2⟩
theorem dOk_list {k : Nat} {ds : List PyData} (h : ∀ d ∈ ds, dOk k d = true) : dOk (k + 1) (.list ds) = true := by
  obtain ⟨h1, h2⟩ := all_dOk h
  unfold dOk
  rw [Bool.and_eq_true]
  refine ⟨?_, decide_eq_true ?_⟩
  · unfold PyData.canLay0; exact h1
  · unfold PyData.depth; omega
theorem dOk_tup {k : Nat} {ds : List PyData} (h : ∀ d ∈ ds, dOk k d = true) : dOk (k + 1) (.tuple ds) = true := by
  obtain ⟨h1, h2⟩ := all_dOk h
  unfold dOk
  rw [Bool.and_eq_true]
  refine ⟨?_, decide_eq_true ?_⟩
  · unfold PyData.canLay0; exact h1
  · unfold PyData.depth; omega
theorem dOk_int {k : Nat} {i : Int} : dOk (k + 1) (.int i) = true := by
  unfold dOk
  rw [Bool.and_eq_true]
  refine ⟨rfl, decide_eq_true ?_⟩
  show PyData.depth (.int i) ≤ k + 1
  unfold PyData.depth; omega
theorem mapO_map {α β : Type} {f : α → Option β} {g : α → β} : ∀ {l : List α}, (∀ a ∈ l, f a = some (g a)) → mapO f l = some (l.map g)
  | [], _ => rfl
  | a :: l, h => by
    unfold mapO
    rw [h a (List.mem_cons_self ..), mapO_map fun x m => h x (List.mem_cons_of_mem _ m)]
    rfl
/-- numbers as values -/
def wi (n : Nat) : U := .int (n : Int)
def dN (ns : List Nat) : List PyData := ns.map fun (n : Nat) => PyData.int (n : Int)
theorem dat_wi {f : Nat} {ns : List Nat} : mapO (datU f) (ns.map wi) = some (dN ns) := by
  have := mapO_map (f := datU f) (g := fun u => match u with | .int i => PyData.int i | _ => .none) (l := ns.map wi) fun a m => by
    obtain ⟨n, _, rfl⟩ := List.mem_map.mp m
    cases f <;> rfl
  rw [this, List.map_map]
  rfl
theorem dat_lst {f : Nat} {z : Fl} {ns : List Nat} : datU (f + 1) (.lst z (ns.map wi)) = some (.list (dN ns)) := by
  unfold datU; rw [dat_wi]
theorem dat_tup {f : Nat} {ns : List Nat} : datU (f + 1) (.tup (ns.map wi)) = some (.tuple (dN ns)) := by
  unfold datU; rw [dat_wi]
theorem ok_dN {ns : List Nat} : ∀ d ∈ dN ns, dOk 1 d = true := fun d m => by
  obtain ⟨n, _, rfl⟩ := List.mem_map.mp m
  exact dOk_int
theorem eqv_dN : ∀ {xs ys : List Nat}, PyData.eqvAll (dN xs) (dN ys) = decide (xs = ys)
  | [], [] => rfl
  | [], _ :: _ => rfl
  | _ :: _, [] => rfl
  | x :: xs, y :: ys => by
    show (((x : Int) == (y : Int)) && PyData.eqvAll (dN xs) (dN ys)) = _
    rw [eqv_dN]
    by_cases h : x = y
    · subst h
      simp
    · have : ((x : Int) == (y : Int)) = false := by
        have : ¬ (x : Int) = (y : Int) := by omega
        simpa using this
      rw [this]
      simp [h]
/-- == of tuples (lists) of numbers -/
theorem eqD_tup {xs ys : List Nat} : gEqD (.tup (xs.map wi)) (.tup (ys.map wi)) = some (decide (xs = ys)) := by
  unfold gEqD
  rw [dat_tup, dat_tup]
  dsimp only
  rw [if_pos (by rw [shaped_of (dOk_tup ok_dN) (by decide), shaped_of (dOk_tup ok_dN) (by decide)]; rfl)]
  show some (PyData.eqvAll (dN xs) (dN ys)) = _
  rw [eqv_dN]
theorem eqD_lst {z z' : Fl} {xs ys : List Nat} : gEqD (.lst z (xs.map wi)) (.lst z' (ys.map wi)) = some (decide (xs = ys)) := by
  unfold gEqD
  rw [dat_lst, dat_lst]
  dsimp only
  rw [if_pos (by rw [shaped_of (dOk_list ok_dN) (by decide), shaped_of (dOk_list ok_dN) (by decide)]; rfl)]
  show some (PyData.eqvAll (dN xs) (dN ys)) = _
  rw [eqv_dN]
theorem gEq_tup {xs ys : List Nat} : gEq (.tup (xs.map wi)) (.tup (ys.map wi)) = some (.bl (decide (xs = ys))) := by
  unfold gEq gEqB; dsimp only; rw [eqD_tup]
theorem gNe_lst {z z' : Fl} {xs ys : List Nat} : gNe (.lst z (xs.map wi)) (.lst z' (ys.map wi)) = some (.bl (!decide (xs = ys))) := by
  unfold gNe gEqB; dsimp only; rw [eqD_lst]
theorem gNe_nil {z z' : Fl} {xs : List Nat} : gNe (.lst z (xs.map wi)) (.lst z' []) = some (.bl (!decide (xs = []))) := gNe_lst (ys := [])
/-- a list of lists of numbers -/
def encR (r : List Nat) : U := .lst .o (r.map wi)
theorem gNe_regs {z z' : Fl} {rs : List (List Nat)} : gNe (.lst z (rs.map encR)) (.lst z' []) = some (.bl (!decide (rs = []))) := by
  have e : datU 12 (.lst z (rs.map encR)) = some (.list (rs.map fun r => .list (dN r))) := by
    unfold datU
    have := mapO_map (f := datU 11) (g := fun u => match u with | .lst _ us => PyData.list (us.map fun u => match u with | .int i => PyData.int i | _ => .none) | _ => .none) (l := rs.map encR) fun a m => by
      obtain ⟨r, _, rfl⟩ := List.mem_map.mp m
      show datU 11 (.lst .o (r.map wi)) = some (PyData.list ((r.map wi).map fun u => match u with | .int i => PyData.int i | _ => .none))
      rw [dat_lst, List.map_map]
      rfl
    rw [this, List.map_map]
    dsimp only
    congr 2
    apply List.map_congr_left
    intro r _
    show PyData.list ((r.map wi).map fun u => match u with | .int i => PyData.int i | _ => .none) = PyData.list (dN r)
    rw [List.map_map]
    rfl
  have e2 : datU 12 (.lst z' []) = some (.list []) := rfl
  unfold gNe gEqB
  dsimp only
  unfold gEqD
  rw [e, e2]
  dsimp only
  rw [if_pos (by rw [shaped_of (k := 3) (dOk_list fun d m => by obtain ⟨r, _, rfl⟩ := List.mem_map.mp m; exact dOk_list ok_dN) (by decide)]; rfl)]
  cases rs <;> rfl
end CV
set_option Elab.async false
set_option linter.all false
/-! CVS: one step of each word, to be used by hand -/
namespace CV
open PySem PySem.Spec PyProof.Rows L2
namespace St
variable {v v1 v2 v3 v4 : VL} {x y z u o o1 o2 : U} {us us1 : List U} {i j : Nat}
theorem varB (h : v[i]? = some (some u)) : eVarB i v = .ok (bor u) v := by unfold eVarB; rw [h]
theorem varN (h : v[i]? = some (some u)) (n : noO u = true) : eVarN i v = .ok u v := by unfold eVarN; rw [h]; dsimp only; rw [if_pos n]
theorem c : eC u v = .ok u v := rfl
theorem nil : CV.aNil v = .ok [] v := rfl
theorem cons {ma : VL → RU U} {mr : VL → RU (List U)} (h : ma v = .ok x v1) (h2 : mr v1 = .ok us v2) : CV.aCons ma mr v = .ok (x :: us) v2 := by
  unfold CV.aCons; rw [h]; unfold RU.bind; dsimp only; rw [h2]
theorem bin {f : U → U → Option U} {ma mb : VL → RU U} (h : ma v = .ok x v1) (h2 : mb v1 = .ok y v2) (hf : f x y = some z) : eBin f ma mb v = .ok z v2 := by
  unfold eBin; rw [h]; unfold RU.bind; dsimp only; rw [h2]; dsimp only; rw [hf]; rfl
theorem un {f : U → Option U} {ma : VL → RU U} (h : ma v = .ok x v1) (hf : f x = some z) : eUn f ma v = .ok z v1 := by
  unfold eUn; rw [h]; unfold RU.bind; dsimp only; rw [hf]; rfl
theorem eb {f : List U → Option U} {mr : VL → RU (List U)} (h : mr v = .ok us v1) (hf : f us = some z) : CV.eB f mr v = .ok z v1 := by
  unfold CV.eB; rw [h]; unfold RU.bind; dsimp only; rw [hf]; rfl
theorem eb1 {f : List U → Option U} {ma : VL → RU U} (h : ma v = .ok x v1) (hf : f [x] = some z) : CV.eB f (CV.aCons ma CV.aNil) v = .ok z v1 := eb (cons h nil) hf
theorem vb {m : VL → RU U} (h : m v = .ok u v1) (n : noB u = true) : CV.vB m v = .ok u v := by unfold CV.vB; rw [h]; dsimp only; rw [if_pos n]
theorem tb {m : VL → RU Bool} {b : Bool} (h : m v = .ok b v1) : CV.tB m v = .ok b v := by unfold CV.tB; rw [h]
theorem tv {m : VL → RU U} {b : Bool} (h : m v = .ok (.bl b) v1) : CV.tVal m v = .ok b v1 := by unfold CV.tVal; rw [h]; rfl
theorem tup {mr : VL → RU (List U)} (h : mr v = .ok us v1) (hl : us.length ≤ 1000000) (hb : us.all noB = true) : CV.eTup mr v = .ok (.tup (us.map CV.frz)) v1 := by
  unfold CV.eTup; rw [h]; unfold RU.bind; dsimp only; rw [if_pos ⟨hl, hb⟩]
theorem lst {mr : VL → RU (List U)} (h : mr v = .ok us v1) (hl : us.length ≤ 1000000) (hb : us.all noB = true) : CV.eLst mr v = .ok (.lst .o us) v1 := by
  unfold CV.eLst; rw [h]; unfold RU.bind; dsimp only; rw [if_pos ⟨hl, hb⟩]
theorem so {m : VL → RU U} {k : Int} (h : m v = .ok (.int k) v1) : CV.oSo m v = .ok (some k) v1 := by
  unfold CV.oSo; rw [h]; rfl
theorem sl {mo : VL → RU U} {ml mh : VL → RU (Option Int)} {lo hi : Option Int} (h : mo v = .ok o v1) (h2 : ml v1 = .ok lo v2) (h3 : mh v2 = .ok hi v3) (hf : gSl o lo hi = some z) : CV.eSl mo ml mh v = .ok z v3 := by
  unfold CV.eSl; rw [h]; unfold RU.bind; dsimp only; rw [h2]; dsimp only; rw [h3]; dsimp only; rw [hf]; rfl
theorem callM {F : List U → RF} {ds : List U} {mr : VL → RU (List U)} (h0 : ∃ w, v[i]? = some (some w)) (h : mr v = .ok us v1) (h1 : v1[i]? = some (some o)) (hf : F (o :: (us ++ ds)) = .ok u o1) : CV.eCallM i F ds mr v = .ok u (v1.set i (some o1)) := by
  obtain ⟨w, h0⟩ := h0
  unfold CV.eCallM; rw [h0]; dsimp only; rw [h]; unfold RU.bind; dsimp only; rw [h1]; dsimp only; rw [hf]; rfl
theorem call {F : List U → RF} {ds : List U} {mr : VL → RU (List U)} (h : mr v = .ok us v1) (hf : F (us ++ ds) = .ok u o1) : CV.eCall F ds mr v = .ok u v1 := by
  unfold CV.eCall; rw [h]; unfold RU.bind; dsimp only; rw [hf]; rfl
theorem mt {g : U → List U → Option (U × U)} {mr : VL → RU (List U)} {ws ws' : List U} (h0 : v[i]? = some (some (.lst .o ws))) (h : mr v = .ok us v1) (h1 : v1[i]? = some (some (.lst .o ws'))) (hg : g (.lst .o ws') us = some (u, o1)) : CV.eMut i g mr v = .ok u (v1.set i (some o1)) := by
  unfold CV.eMut; rw [h0]; dsimp only; rw [h]; unfold RU.bind; dsimp only; rw [h1]; dsimp only; rw [if_pos (show isOwn (U.lst Fl.o ws') = true from rfl), hg]
theorem asgF {me : VL → RU U} (h : me v = .ok u v1) : CV.sAsg (CV.gNf i) me v = .nx (v1.set i (some (CV.frz u))) := by
  unfold CV.sAsg; rw [h]; rfl
theorem asgM {me : VL → RU U} (h : me v = .ok u v1) : CV.sAsg (CV.gNm i) me v = .nx (v1.set i (some u)) := by
  unfold CV.sAsg; rw [h]; rfl
theorem asg {g : U → VL → Option VL} {me : VL → RU U} (h : me v = .ok u v1) (hg : g u v1 = some v2) : CV.sAsg g me v = .nx v2 := by
  unfold CV.sAsg; rw [h]; unfold RU.toS; dsimp only; rw [hg]; rfl
theorem ex {me : VL → RU U} (h : me v = .ok u v1) : CV.sEx me v = .nx v1 := by
  unfold CV.sEx; rw [h]; rfl
theorem ret {me : VL → RU U} (h : me v = .ok u v1) (n : noB u = true) : CV.sRet me v = .ret u v1 := by
  unfold CV.sRet; rw [h]; unfold RU.toS; dsimp only; rw [if_pos n]
theorem nx {m k : VL → RSU} (h : m v = .nx v1) : CV.sSeq m k v = k v1 := by unfold CV.sSeq; rw [h]; exact fV_eq _ _
theorem ift {mt : VL → RU Bool} {ma mb : VL → RSU} (h : mt v = .ok true v1) : CV.sIf mt ma mb v = ma v1 := by unfold CV.sIf; rw [h]
theorem iff {mt : VL → RU Bool} {ma mb : VL → RSU} (h : mt v = .ok false v1) : CV.sIf mt ma mb v = mb v1 := by unfold CV.sIf; rw [h]
theorem fz {g : U → VL → Option VL} (h : g (CV.frz u) v = some v1) : CV.gFz g u v = some v1 := h
theorem st {mi : VL → RU U} {j : U} (h0 : ∃ w, v[i]? = some (some w)) (h : mi v = .ok j v1) (h1 : v1[i]? = some (some o)) (hs : setO o j u = some o1) : CV.gSt i mi u v = some (v1.set i (some o1)) := by
  obtain ⟨w, h0⟩ := h0
  unfold CV.gSt; rw [h0]; dsimp only; rw [h]; dsimp only; rw [h1]; dsimp only; rw [hs]
theorem gtup2 {g1 g2 : U → VL → Option VL} (h1 : g1 x v = some v1) (h2 : g2 y v1 = some v2) : CV.gTupT 2 (CV.gsCons g1 (CV.gsCons g2 CV.gsNil)) (.tup [x, y]) v = some v2 := by
  unfold CV.gTupT; dsimp only; rw [if_pos (show [x, y].length = 2 from rfl)]; unfold CV.gsCons; dsimp only; rw [h1]; dsimp only; rw [h2]; rfl
theorem wh_t {t : VL → RU Bool} {b : VL → RSU} {n : Nat} (h : t v = .ok true v1) (h2 : b v1 = .nx v2) : CV.whV t b (n + 1) v = CV.whV t b n v2 := by
  rw [CV.whV, h]; dsimp only; rw [h2]; exact fV_eq _ _
theorem wh_f {t : VL → RU Bool} {b : VL → RSU} {n : Nat} (h : t v = .ok false v1) : CV.whV t b (n + 1) v = .nx v1 := by
  rw [CV.whV, h]
theorem for_nil {g : U → VL → Option VL} {b : VL → RSU} : CV.forL g b [] v = .nx v := rfl
theorem for_cons {g : U → VL → Option VL} {b : VL → RSU} (hg : g u v = some v1) (hb : b v1 = .nx v2) : CV.forL g b (u :: us) v = CV.forL g b us v2 := by
  rw [CV.forL, hg]; dsimp only; rw [hb]; exact fV_eq _ _
theorem sfor {g : U → VL → Option VL} {b : VL → RSU} {mi : VL → RU (List U)} (h : mi v = .ok us v1) : CV.sFor g mi b v = CV.forL g b us v1 := by
  unfold CV.sFor; rw [h]; rfl
theorem fnM_ret {j np N : Nat} {b : VL → RSU} {vs : VL} (hl : us.length = np) (hv : us.map some ++ List.replicate (N - us.length) none = vs) (hb : b vs = .ret u v) (ho : CV.outO j v = some o) : CV.fnM j np N b us = .ok u o := by
  unfold CV.fnM; rw [if_pos hl, hv, hb]; dsimp only; rw [ho]
theorem fnM_nx {j np N : Nat} {b : VL → RSU} {vs : VL} (hl : us.length = np) (hv : us.map some ++ List.replicate (N - us.length) none = vs) (hb : b vs = .nx v) (ho : CV.outO j v = some o) : CV.fnM j np N b us = .ok .non o := by
  unfold CV.fnM; rw [if_pos hl, hv, hb]; dsimp only; rw [ho]
theorem fnV_ret {np N : Nat} {b : VL → RSU} {vs : VL} (hl : us.length = np) (hv : us.map some ++ List.replicate (N - us.length) none = vs) (hb : b vs = .ret u v) : CV.fnV np N b us = .ok u .non := by
  unfold CV.fnV; rw [if_pos hl, hv, hb]
theorem fnV_nx {np N : Nat} {b : VL → RSU} {vs : VL} (hl : us.length = np) (hv : us.map some ++ List.replicate (N - us.length) none = vs) (hb : b vs = .nx v) : CV.fnV np N b us = .ok .non .non := by
  unfold CV.fnV; rw [if_pos hl, hv, hb]
theorem fnV_exc {np N k : Nat} {b : VL → RSU} {vs : VL} (hl : us.length = np) (hv : us.map some ++ List.replicate (N - us.length) none = vs) (hb : b vs = .exc k u v) : CV.fnV np N b us = .exc k u .non := by
  unfold CV.fnV; rw [if_pos hl, hv, hb]
theorem callX {F : List U → RF} {ds : List U} {mr : VL → RU (List U)} {k : Nat} (h : mr v = .ok us v1) (hf : F (us ++ ds) = .exc k u o1) : CV.eCall F ds mr v = .exc k u v1 := by
  unfold CV.eCall; rw [h]; unfold RU.bind; dsimp only; rw [hf]; rfl
theorem exX {me : VL → RU U} {k : Nat} (h : me v = .exc k u v1) : CV.sEx me v = .exc k u v1 := by
  unfold CV.sEx; rw [h]; rfl
theorem vbX {m : VL → RU U} {k : Nat} (h : m v = .exc k u v1) : CV.vB m v = .exc k u v := by unfold CV.vB; rw [h]
theorem seqX {m k : VL → RSU} {n : Nat} (h : m v = .exc n u v1) : CV.sSeq m k v = .exc n u v1 := by unfold CV.sSeq; rw [h]
theorem seqR {m k : VL → RSU} (h : m v = .ret u v1) : CV.sSeq m k v = .ret u v1 := by unfold CV.sSeq; rw [h]
theorem raise {me : VL → RU U} {k : Nat} (h : me v = .ok u v1) (n : noB u = true) : CV.sRaise k me v = .exc k (CV.frz u) v1 := by
  unfold CV.sRaise; rw [h]; unfold RU.toS; dsimp only; rw [if_pos n]
theorem meth {k : Nat} {F : List U → RF} {ds : List U} {mo : VL → RU U} {mr : VL → RU (List U)} (h : mo v = .ok o v1) (hc : isCU k o = true) (h2 : mr v1 = .ok us v2) (hf : F (o :: (us ++ ds)) = .ok u o1) : CV.eMeth k F ds mo mr v = .ok u v2 := by
  unfold CV.eMeth; rw [h]; unfold RU.bind; dsimp only; rw [hc]; dsimp only; rw [h2]; dsimp only; rw [hf]; rfl
theorem make {k : Nat} {F : List U → RF} {ds : List U} {mr : VL → RU (List U)} (h : mr v = .ok us v1) (hf : F (.ins .o k [] :: (us ++ ds)) = .ok .non o) : CV.eMakeM k F ds mr v = .ok o v1 := by
  unfold CV.eMakeM; rw [h]; unfold RU.bind; dsimp only; rw [hf]; rfl
theorem andT {ma mb : VL → RU U} (h : ma v = .ok (.bl true) v1) : CV.eAndV ma mb v = mb v1 := by unfold CV.eAndV; rw [h]; rfl
theorem andF {ma mb : VL → RU U} (h : ma v = .ok (.bl false) v1) : CV.eAndV ma mb v = .ok (.bl false) v1 := by unfold CV.eAndV; rw [h]; rfl
theorem not {ma : VL → RU U} {b : Bool} (h : ma v = .ok (.bl b) v1) : CV.eNotV ma v = .ok (.bl (!b)) v1 := by unfold CV.eNotV; rw [h]; rfl
theorem orTF {ma mb : VL → RU Bool} (h : ma v = .ok false v1) : CV.tOrT ma mb v = mb v1 := by unfold CV.tOrT; rw [h]; rfl
theorem notT {ma : VL → RU Bool} {b : Bool} (h : ma v = .ok b v1) : CV.tNotT ma v = .ok (!b) v1 := by unfold CV.tNotT; rw [h]; rfl
theorem isi {q : CC.TK → Option Bool} {ma : VL → RU U} {b : Bool} (h : ma v = .ok u v1) (hq : q (tyU u) = some b) : CV.eIsi q ma v = .ok (.bl b) v1 := by
  unfold CV.eIsi; rw [h]; unfold RU.bind; dsimp only; rw [hq]
theorem chainT {f f' : U → U → Option U} {ma mb mc : VL → RU U} {w : U} (h : ma v = .ok x v1) (h2 : mb v1 = .ok y v2) (hf : f x y = some (.bl true)) (h3 : mc v2 = .ok u v3) (hf' : f' y u = some w) : CV.eChain f f' ma mb mc v = .ok w v3 := by
  unfold CV.eChain; rw [h]; unfold RU.bind; dsimp only; rw [h2]; dsimp only; rw [hf]; dsimp only; rw [h3]; dsimp only; rw [hf']; rfl
theorem fldA {k i j : Nat} {me : VL → RU U} {fs : List (Nat × U)} (h : me v = .ok u v1) (h1 : v1[j]? = some (some (.ins .o k fs))) (hl : fs.length < 900) (hn : noB u = true) : CV.sFldA k i j me v = .nx (v1.set j (some (.ins .o k (putFU i u fs)))) := by
  unfold CV.sFldA; rw [h]; unfold RU.toS; dsimp only; rw [h1]; dsimp only; rw [if_pos ⟨rfl, hl, hn⟩]
theorem par2 {g1 g2 : U → VL → Option VL} {mr : VL → RU (List U)} (h : mr v = .ok [x, y] v1) (h1 : g1 x v1 = some v2) (h2 : g2 y v2 = some v3) : CV.sPar2 g1 g2 mr v = .nx v3 := by
  unfold CV.sPar2; rw [h]; dsimp only; rw [h1]; dsimp only; rw [h2]; rfl
theorem iseq {ma : VL → RU U} (h : ma v = .ok u v1) (hi : itemsU u = some us) : CV.iSeq ma v = .ok us v1 := by
  unfold CV.iSeq; rw [h]; unfold RU.bind; dsimp only; rw [hi]
theorem ienm {ma : VL → RU U} (h : ma v = .ok u v1) (hi : itemsU u = some us) (hb : us.all noB = true) : CV.iEnm ma v = .ok (enU 0 us) v1 := by
  unfold CV.iEnm; rw [h]; unfold RU.bind; dsimp only; rw [hi]; dsimp only; rw [if_pos hb]
theorem lc {ct : CC.CTg} {mi : VL → RU (List U)} {t : VL → RU Bool} {e : VL → RU U} {ys : List U} (h : mi v = .ok us v1) (hn : noOs v1 ct.slots = true) (hl : CV.lcL ct t e us (wipeV v1 ct.slots) = .ok ys v2) (hy : ys.length ≤ 1000000) (hb : ys.all noB = true) : CV.eLc ct mi t e v = .ok (.lst .o ys) (restV v1 v2 ct.slots) := by
  unfold CV.eLc; rw [h]; unfold RU.bind; dsimp only; rw [if_pos hn, hl]; dsimp only; rw [if_pos ⟨hy, hb⟩]
theorem b62_of {i : Int} (a : -(2 ^ 62) ≤ i) (b : i < 2 ^ 62) : CC.b62 i = true := by
  unfold CC.b62; rw [decide_eq_true a, decide_eq_true b]; rfl
theorem b62_nat {n : Nat} (hn : n < 1000000) : CC.b62 (n : Int) = true := by
  obtain ⟨i, hi⟩ : ∃ i : Int, i = (n : Int) := ⟨_, rfl⟩
  rw [← hi]
  exact b62_of (by omega) (by omega)
theorem rgI {ma : VL → RU U} {i : Int} (h : ma v = .ok (.int i) v1) (hb : CC.b62 i = true) : CV.iRange1 ma v = .ok (rngU 0 1 i.toNat) v1 := by
  unfold CV.iRange1; rw [h]; unfold RU.bind; dsimp only; rw [if_pos hb]
theorem rg1 {ma : VL → RU U} {n : Nat} (h : ma v = .ok (.int (n : Int)) v1) (hn : n < 1000000) : CV.iRange1 ma v = .ok (rngU 0 1 n) v1 := by
  rw [rgI h (b62_nat hn), Int.toNat_natCast]
end St
end CV
set_option Elab.async false
set_option linter.all false
set_option maxRecDepth 100000
set_option maxHeartbeats 1000000
namespace K46.V
open PySem PySem.Spec PyProof.Rows L2 CV
theorem i64_of {i : Int} (a : -(2 ^ 64) < i) (b : i < 2 ^ 64) : CC.i64 i = true := by
  unfold CC.i64; rw [decide_eq_true a, decide_eq_true b]; rfl
theorem atI_nat {us : List U} {k : Nat} {u : U} (h : us[k]? = some u) : atI us (k : Int) = some u := by
  have hk := (List.getElem?_eq_some_iff.mp h).1
  unfold atI ixN
  rw [if_pos (by omega), if_pos (by omega)]
  simpa using h
theorem seq_nx {m k : VL → RSU} {v v1 : VL} (h : m v = .nx v1) : sSeq m k v = k v1 := by unfold sSeq; rw [h]; exact fV_eq _ _
def mixed (c k : Int) : Int := (c % 2147483629 + 7919 * k * k + 31 * k + 17) * 48271 % 2147483647
def cell (ns : List Int) (k : Nat) : Int := if h : k < ns.length then (if ns[k] < 0 then -ns[k] else ns[k]) else 0
theorem cell_nn (ns : List Int) (k : Nat) : 0 ≤ cell ns k := by
  unfold cell; split
  · split <;> omega
  · decide
theorem take_spec (a b n : Int) (ha : 0 ≤ a) (hb : 0 ≤ b) (h0 : 0 < n) (h1 : n < 1073741824) : ∃ a' b' r : Int, 0 ≤ a' ∧ 0 ≤ b' ∧ 0 ≤ r ∧ r < n ∧ u__law_take [.lst .o [.int a, .int b], .int n] = .ok (.int r) (.lst .o [.int a', .int b']) := by
  have e3 : CC.i64 48271 = true := rfl
  have e7 : ∀ a : Int, CC.i64 (a % 2147483647) = true := fun a => i64_of (by have := Int.emod_nonneg a (show (2147483647 : Int) ≠ 0 by decide); omega) (by have := Int.emod_lt_of_pos a (show (0 : Int) < 2147483647 by decide); omega)
  have q0 : ∀ x y : U, atI [x, y] 0 = some x := fun _ _ => rfl
  have q1 : ∀ x y : U, atI [x, y] 1 = some y := fun _ _ => rfl
  have j0 : ixN 2 0 = some 0 := rfl
  have j1 : ixN 2 1 = some 1 := rfl
  by_cases h : 0 < a
  · refine ⟨a / n, b, a % n, Int.ediv_nonneg ha (by omega), hb, Int.emod_nonneg _ (by omega), Int.emod_lt_of_pos _ h0, ?_⟩
    simp [u__law_take, fnM, v__law_take, sSeq, sIf, sAsg, sEx, sRet, sRetN, sNx, sBrk, sCt, sAug, sPar2, sPar3, sRaise, sFldA, gNm, gNf, gFz, gSt, gTupT, gsNil, gsCons, nxO, fV, fV_eq, RU.toS, RU.bind, vB, CV.tB, CV.tVal, tAndT, tOrT, tNotT, tTrue, eVarB, eVarN, eMov, eFrz, eC, eBin, eUn, CV.aNil, CV.aCons, eTup, eLst, eB, eIf, eAndV, eOrV, eNotV, ofO, ofF, eCall, eCallM, eCallM1, backM, eMeth, eMakeM, makeO, isCU, eFld, lookFU, itm, CV.frz, CV.bor, CV.noB, CV.noO, eIsi, tyU, CC.qInt, CC.qBool, CC.qTup, CC.qLst, CC.qStr, CC.qT, oNo, oSo, eDct, putFU, isOwn, outO, gGt, gIx, getI, gMod, gFdiv, setO, q0, q1, j0, j1, h, h0, h1]
  · refine ⟨a, (b * 48271 + 12345) % 2147483647, (((b * 48271 + 12345) % 2147483647) * ((b * 48271 + 12345) % 2147483647) % 2147483629) / 64 % n, ha, Int.emod_nonneg _ (by decide), Int.emod_nonneg _ (by omega), Int.emod_lt_of_pos _ h0, ?_⟩
    simp [u__law_take, fnM, v__law_take, sSeq, sIf, sAsg, sEx, sRet, sRetN, sNx, sBrk, sCt, sAug, sPar2, sPar3, sRaise, sFldA, gNm, gNf, gFz, gSt, gTupT, gsNil, gsCons, nxO, fV, fV_eq, RU.toS, RU.bind, vB, CV.tB, CV.tVal, tAndT, tOrT, tNotT, tTrue, eVarB, eVarN, eMov, eFrz, eC, eBin, eUn, CV.aNil, CV.aCons, eTup, eLst, eB, eIf, eAndV, eOrV, eNotV, ofO, ofF, eCall, eCallM, eCallM1, backM, eMeth, eMakeM, makeO, isCU, eFld, lookFU, itm, CV.frz, CV.bor, CV.noB, CV.noO, eIsi, tyU, CC.qInt, CC.qBool, CC.qTup, CC.qLst, CC.qStr, CC.qT, oNo, oSo, eDct, putFU, isOwn, outO, gGt, gIx, getI, gMod, gFdiv, gMul, gAdd, setO, q0, q1, j0, j1, h, h0, h1, e3, e7]
theorem pow18 : gPow (.int 10) (.int 18) = some (.int 1000000000000000000) := rfl
theorem pool_core (ns : List Int) (z v c : Int) (e6 : CC.i64 (7919 * z) = true) (h : z < (ns.length : Int) → atI (List.map U.int ns) z = some (.int v)) (hc : c = if z < (ns.length : Int) then (if v < 0 then -v else v) else 0) :
    u__law_pool [.frz ns, .int z] = .ok (.lst .o [.int (c * (if decide (1000000000000000000 ≤ c) then 1 else 0)), .int (mixed c z * mixed c z % 2147483629)]) .non := by
  have e0 : CC.i64 0 = true := rfl
  have e1 : CC.i64 7919 = true := rfl
  have e2 : CC.i64 31 = true := rfl
  have e3 : CC.i64 48271 = true := rfl
  have e7 : ∀ a : Int, CC.i64 (a % 2147483647) = true := fun a => i64_of (by have := Int.emod_nonneg a (show (2147483647 : Int) ≠ 0 by decide); omega) (by have := Int.emod_lt_of_pos a (show (0 : Int) < 2147483647 by decide); omega)
  have e9 : ∀ p : Prop, ∀ _ : Decidable p, CC.i64 (if p then 1 else 0) = true := fun p _ => by split <;> rfl
  have sB : sIf (CV.tB (CV.tVal (eBin gLt (eVarB 1) (eB fLen (CV.aCons (eVarB 0) CV.aNil))))) (sAsg (gNf 2) (vB (eB fAbs (CV.aCons (eBin gIx (eVarB 0) (eVarB 1)) CV.aNil)))) sNx [some (.frz ns), some (.int z), some (.int 0), none] = .nx [some (.frz ns), some (.int z), some (.int c), none] := by
    by_cases q : z < (ns.length : Int)
    · rw [if_pos q] at hc
      simp [sSeq, sIf, sAsg, sEx, sRet, sRetN, sNx, sBrk, sCt, sAug, sPar2, sPar3, sRaise, sFldA, gNm, gNf, gFz, gSt, gTupT, gsNil, gsCons, nxO, fV, fV_eq, RU.toS, RU.bind, vB, CV.tB, CV.tVal, tAndT, tOrT, tNotT, tTrue, eVarB, eVarN, eMov, eFrz, eC, eBin, eUn, CV.aNil, CV.aCons, eTup, eLst, eB, eIf, eAndV, eOrV, eNotV, ofO, ofF, eCall, eCallM, eCallM1, backM, eMeth, eMakeM, makeO, isCU, eFld, lookFU, itm, CV.frz, CV.bor, CV.noB, CV.noO, eIsi, tyU, CC.qInt, CC.qBool, CC.qTup, CC.qLst, CC.qStr, CC.qT, oNo, oSo, eDct, putFU, isOwn, outO, gLt, gIx, getI, fLen, lenU, fAbs, h q, q, hc]
    · rw [if_neg q] at hc
      simp [sSeq, sIf, sAsg, sEx, sRet, sRetN, sNx, sBrk, sCt, sAug, sPar2, sPar3, sRaise, sFldA, gNm, gNf, gFz, gSt, gTupT, gsNil, gsCons, nxO, fV, fV_eq, RU.toS, RU.bind, vB, CV.tB, CV.tVal, tAndT, tOrT, tNotT, tTrue, eVarB, eVarN, eMov, eFrz, eC, eBin, eUn, CV.aNil, CV.aCons, eTup, eLst, eB, eIf, eAndV, eOrV, eNotV, ofO, ofF, eCall, eCallM, eCallM1, backM, eMeth, eMakeM, makeO, isCU, eFld, lookFU, itm, CV.frz, CV.bor, CV.noB, CV.noO, eIsi, tyU, CC.qInt, CC.qBool, CC.qTup, CC.qLst, CC.qStr, CC.qT, oNo, oSo, eDct, putFU, isOwn, outO, gLt, gIx, getI, fLen, lenU, fAbs, q, hc]
  have sA : sAsg (gNf 2) (eC (.int 0)) [some (.frz ns), some (.int z), none, none] = .nx [some (.frz ns), some (.int z), some (.int 0), none] := rfl
  generalize hm : mixed c z = m
  have em : CC.i64 m = true := by rw [← hm]; exact e7 _
  unfold mixed at hm
  have sC : sAsg (gNf 3) (vB (eBin gMod (eBin gMul (eBin gAdd (eBin gAdd (eBin gAdd (eBin gMod (eVarB 2) (eC (.int 2147483629))) (eBin gMul (eBin gMul (eC (.int 7919)) (eVarB 1)) (eVarB 1))) (eBin gMul (eC (.int 31)) (eVarB 1))) (eC (.int 17))) (eC (.int 48271))) (eC (.int 2147483647)))) [some (.frz ns), some (.int z), some (.int c), none] = .nx [some (.frz ns), some (.int z), some (.int c), some (.int m)] := by
    simp [sSeq, sIf, sAsg, sEx, sRet, sRetN, sNx, sBrk, sCt, sAug, sPar2, sPar3, sRaise, sFldA, gNm, gNf, gFz, gSt, gTupT, gsNil, gsCons, nxO, fV, fV_eq, RU.toS, RU.bind, vB, CV.tB, CV.tVal, tAndT, tOrT, tNotT, tTrue, eVarB, eVarN, eMov, eFrz, eC, eBin, eUn, CV.aNil, CV.aCons, eTup, eLst, eB, eIf, eAndV, eOrV, eNotV, ofO, ofF, eCall, eCallM, eCallM1, backM, eMeth, eMakeM, makeO, isCU, eFld, lookFU, itm, CV.frz, CV.bor, CV.noB, CV.noO, eIsi, tyU, CC.qInt, CC.qBool, CC.qTup, CC.qLst, CC.qStr, CC.qT, oNo, oSo, eDct, putFU, isOwn, outO, gMod, gMul, gAdd, e1, e2, e3, e6, hm]
  have sD : v__law_pool [some (.frz ns), some (.int z), none, none] = .ret (.lst .o [.int (c * (if decide (1000000000000000000 ≤ c) then 1 else 0)), .int (m * m % 2147483629)]) [some (.frz ns), some (.int z), some (.int c), some (.int m)] := by
    unfold v__law_pool
    rw [seq_nx sA, seq_nx sB, seq_nx sC]
    simp [sSeq, sIf, sAsg, sEx, sRet, sRetN, sNx, sBrk, sCt, sAug, sPar2, sPar3, sRaise, sFldA, gNm, gNf, gFz, gSt, gTupT, gsNil, gsCons, nxO, fV, fV_eq, RU.toS, RU.bind, vB, CV.tB, CV.tVal, tAndT, tOrT, tNotT, tTrue, eVarB, eVarN, eMov, eFrz, eC, eBin, eUn, CV.aNil, CV.aCons, eTup, eLst, eB, eIf, eAndV, eOrV, eNotV, ofO, ofF, eCall, eCallM, eCallM1, backM, eMeth, eMakeM, makeO, isCU, eFld, lookFU, itm, CV.frz, CV.bor, CV.noB, CV.noO, eIsi, tyU, CC.qInt, CC.qBool, CC.qTup, CC.qLst, CC.qStr, CC.qT, oNo, oSo, eDct, putFU, isOwn, outO, gMod, gMul, gGe, fInt, pow18, e9, em]
  unfold u__law_pool fnV
  show (match v__law_pool [some (.frz ns), some (.int z), none, none] with | .ret u _ => RF.ok u .non | .nx _ => .ok .non .non | .exc c u _ => .exc c u .non | _ => .bad) = _
  rw [sD]
theorem pool_spec (ns : List Int) (k : Nat) (hk : k < 64) : ∃ a b : Int, 0 ≤ a ∧ 0 ≤ b ∧ u__law_pool [.frz ns, .int (k : Int)] = .ok (.lst .o [.int a, .int b]) .non := by
  refine ⟨_, _, ?_, ?_, pool_core ns k (if h : k < ns.length then ns[k] else 0) (cell ns k) (i64_of (by omega) (by omega)) (fun h => ?_) ?_⟩
  · have := cell_nn ns k
    split <;> omega
  · exact Int.emod_nonneg _ (by decide)
  · have h' : k < ns.length := by omega
    rw [dif_pos h']
    exact atI_nat (by rw [List.getElem?_map, List.getElem?_eq_getElem h']; rfl)
  · unfold cell
    by_cases h : k < ns.length
    · have h' : (k : Int) < (ns.length : Int) := by omega
      simp only [dif_pos h, if_pos h']
    · rw [dif_neg h, if_neg (by omega)]
/-! ### the pool in a slot -/
abbrev PL (a b : Int) : U := .lst .o [.int a, .int b]
theorem take_nat (a b : Int) (n : Nat) (ha : 0 ≤ a) (hb : 0 ≤ b) (h0 : 0 < n) (h1 : n < 1000000) : ∃ (a' b' : Int) (q : Nat), 0 ≤ a' ∧ 0 ≤ b' ∧ q < n ∧ u__law_take [PL a b, .int (n : Int)] = .ok (.int (q : Int)) (PL a' b') := by
  obtain ⟨z, hz⟩ : ∃ z : Int, z = (n : Int) := ⟨_, rfl⟩
  obtain ⟨a', b', r, ha', hb', r0, r1, tk⟩ := take_spec a b z ha hb (by omega) (by omega)
  refine ⟨a', b', r.toNat, ha', hb', by omega, ?_⟩
  rw [← hz, tk, Int.toNat_of_nonneg r0]
theorem rngU_wi (n : Nat) : ∀ k : Nat, rngU (k : Int) 1 n = (List.range' k n).map wi := by
  induction n with
  | zero => intro k; rfl
  | succ n ih =>
    intro k
    rw [List.range'_succ, List.map_cons, ← ih (k + 1)]
    rfl
theorem rng_wi (n : Nat) : rngU 0 1 n = (List.range n).map wi := by
  have := rngU_wi n 0
  rw [List.range_eq_range']
  exact this
theorem count_of (N n : Nat) (h1 : 1 ≤ N) (hN : N < 1000) : ∃ (m : Nat) (w : Int), m ≤ N ∧ fMin2 [.int (N : Int), .int (n : Int)] = some (.int w) ∧ fMax2 [.int 1, .int w] = some (.int (m : Int)) := by
  obtain ⟨z, hz⟩ : ∃ z : Int, z = (n : Int) := ⟨_, rfl⟩
  obtain ⟨y, hy⟩ : ∃ y : Int, y = (N : Int) := ⟨_, rfl⟩
  rw [← hz, ← hy]
  have mn : ∃ w : Int, w ≤ y ∧ fMin2 [.int y, .int z] = some (.int w) := by
    unfold fMin2; dsimp only
    split
    · exact ⟨_, by omega, rfl⟩
    · exact ⟨y, by omega, rfl⟩
  obtain ⟨w, hw, mn⟩ := mn
  have mx : ∃ m : Int, 0 ≤ m ∧ m ≤ y ∧ fMax2 [.int 1, .int w] = some (.int m) := by
    unfold fMax2; dsimp only
    split
    · exact ⟨_, by omega, by omega, rfl⟩
    · exact ⟨1, by omega, by omega, rfl⟩
  obtain ⟨m, m0, m6, mx⟩ := mx
  refine ⟨m.toNat, w, by omega, mn, ?_⟩
  rw [Int.toNat_of_nonneg m0]
  exact mx
end K46.V
set_option Elab.async false
set_option linter.all false
set_option maxRecDepth 100000
set_option maxHeartbeats 1000000
namespace K46.V
open PySem PySem.Spec PyProof.Rows L2 CV
abbrev la1 : VL → RSU := (sAsg (gNm 2) (vB (eCall u__law_pool [] (aCons (eVarB 0) (aCons (eVarB 1) aNil)))))
abbrev la2 : VL → RSU := (sAsg (gNf 3) (eBin gAdd (eC (.int 1)) (eCallM 2 u__law_take [] (aCons (eC (.int 16)) aNil))))
abbrev la3 : VL → RSU := (sAsg (gNf 4) (vB (eLc (CC.CTg.nm 8) (iRange1 (eBin gAdd (eVarB 3) (eC (.int 3)))) tTrue (eCall u__law_result [] (aCons (eC (.int 1)) (aCons (eVarB 3) (aCons (eVarB 8) aNil)))))))
abbrev la4 : VL → RSU := (sAsg (gNf 5) (vB (eLc (CC.CTg.nm 8) (iRange1 (eBin gAdd (eVarB 3) (eC (.int 3)))) tTrue (eCall u__law_half_count [] (aCons (eVarB 3) (aCons (eVarB 8) aNil))))))
abbrev la5 : VL → RSU := (sIf (tB (tVal (eBin gNe (eB fRepr (aCons (eVarB 4) aNil)) (eB fRepr (aCons (eLc (CC.CTg.nm 9) (iSeq (eVarB 5)) tTrue (eBin gMul (eVarB 9) (eVarB 9))) aNil))))) (sRet (eC (.bl false))) sNx)
abbrev la6 : VL → RSU := (sIf (tB (tOrT (tVal (eBin gNe (eB fRepr (aCons (eCall u__law_result [] (aCons (eC (.int 0)) (aCons (eVarB 3) (aCons (eC .non) aNil)))) aNil)) (eB fRepr (aCons (eCall u__law_catalan [] (aCons (eVarB 3) aNil)) aNil)))) (tVal (eBin gNe (eB fSum (aCons (eVarB 4) aNil)) (eCall u__law_catalan [] (aCons (eVarB 3) aNil)))))) (sRet (eC (.bl false))) sNx)
abbrev la7 : VL → RSU := (sIf (tVal (eBin gNe (eCall u__law_result [] (aCons (eC (.int 1)) (aCons (eVarN 3) (aCons (eBin gAdd (vB (eBin gPow (eC (.int 10)) (eC (.int 20)))) (eCallM 2 u__law_take [] (aCons (eC (.int 9)) aNil))) aNil)))) (eC (.int 0)))) (sRet (eC (.bl false))) sNx)
abbrev la8 : VL → RSU := (sAsg (gNf 6) (eBin gIx (vB (eLst (aCons (eC .non) (aCons (eC (.int 0)) (aCons (eC (.int 17)) (aCons (eC (.bl true)) (aCons (eC (.str "3")) (aCons (eTup (aCons (eC (.int 3)) aNil)) (aCons (eUn gNeg (eC (.int 1))) (aCons (eBin gPow (eC (.int 10)) (eC (.int 20))) aNil)))))))))) (eCallM 2 u__law_take [] (aCons (eC (.int 8)) aNil))))
abbrev la9 : VL → RSU := (sFor (gNf 7) (iSeq (vB (eLst (aCons (eC (.int 0)) (aCons (eC (.int 1)) aNil))))) v_law_b2)
abbrev la10 : VL → RSU := (sAsg (gNf 6) (eBin gIx (vB (eLst (aCons (eC .non) (aCons (eUn gNeg (eC (.int 1))) (aCons (eC (.bl true)) (aCons (eC (.bl false)) (aCons (eC (.str "0")) (aCons (eTup (aCons (eC (.int 0)) aNil)) (aCons (eLst (aCons (eC (.int 2)) aNil)) aNil))))))))) (eCallM 2 u__law_take [] (aCons (eC (.int 7)) aNil))))
abbrev la11 : VL → RSU := (sIf (tB (tVal (eBin gNe (eCall u__law_result [] (aCons (eC (.int 1)) (aCons (eVarB 3) (aCons (eVarB 6) aNil)))) (eTup (aCons (eC (.str "number")) (aCons (eB fRepr (aCons (eVarB 6) aNil)) (aCons (eC (.bl true)) aNil))))))) (sRet (eC (.bl false))) sNx)
abbrev lat11 : VL → RSU := la11
abbrev lat10 : VL → RSU := sSeq la10 lat11
abbrev lat9 : VL → RSU := sSeq la9 lat10
abbrev lat8 : VL → RSU := sSeq la8 lat9
abbrev lat7 : VL → RSU := sSeq la7 lat8
abbrev lat6 : VL → RSU := sSeq la6 lat7
abbrev lat5 : VL → RSU := sSeq la5 lat6
abbrev lat4 : VL → RSU := sSeq la4 lat5
abbrev lat3 : VL → RSU := sSeq la3 lat4
abbrev lat2 : VL → RSU := sSeq la2 lat3
abbrev lat1 : VL → RSU := sSeq la1 lat2
theorem la_eq : v_law_b1 = lat1 := rfl


def fd (w : Nat) : U := match la3 [none, none, none, some (wi w), none, none, none, none, none, none] with
  | .nx v => (match v[4]? with | some (some u) => u | _ => .non)
  | _ => .non
def wk (w : Nat) : U := match la4 [none, none, none, some (wi w), none, none, none, none, none, none] with
  | .nx v => (match v[5]? with | some (some u) => u | _ => .non)
  | _ => .non
theorem l3 (A B P x4 x5 x6 x7 : Option U) (w : Nat) (h1 : 1 ≤ w) (h2 : w < 17) : la3 [A, B, P, some (wi w), x4, x5, x6, x7, none, none] = .nx [A, B, P, some (wi w), some (fd w), x5, x6, x7, none, none] := by
  match w, h1, h2 with
  | 0, h1, _ => omega
  | 1, _, _ => kernel_rfl
  | 2, _, _ => kernel_rfl
  | 3, _, _ => kernel_rfl
  | 4, _, _ => kernel_rfl
  | 5, _, _ => kernel_rfl
  | 6, _, _ => kernel_rfl
  | 7, _, _ => kernel_rfl
  | 8, _, _ => kernel_rfl
  | 9, _, _ => kernel_rfl
  | 10, _, _ => kernel_rfl
  | 11, _, _ => kernel_rfl
  | 12, _, _ => kernel_rfl
  | 13, _, _ => kernel_rfl
  | 14, _, _ => kernel_rfl
  | 15, _, _ => kernel_rfl
  | 16, _, _ => kernel_rfl
  | c + 17, _, h => omega

theorem l4 (A B P x4 x5 x6 x7 : Option U) (w : Nat) (h1 : 1 ≤ w) (h2 : w < 17) : la4 [A, B, P, some (wi w), x4, x5, x6, x7, none, none] = .nx [A, B, P, some (wi w), x4, some (wk w), x6, x7, none, none] := by
  match w, h1, h2 with
  | 0, h1, _ => omega
  | 1, _, _ => kernel_rfl
  | 2, _, _ => kernel_rfl
  | 3, _, _ => kernel_rfl
  | 4, _, _ => kernel_rfl
  | 5, _, _ => kernel_rfl
  | 6, _, _ => kernel_rfl
  | 7, _, _ => kernel_rfl
  | 8, _, _ => kernel_rfl
  | 9, _, _ => kernel_rfl
  | 10, _, _ => kernel_rfl
  | 11, _, _ => kernel_rfl
  | 12, _, _ => kernel_rfl
  | 13, _, _ => kernel_rfl
  | 14, _, _ => kernel_rfl
  | 15, _, _ => kernel_rfl
  | 16, _, _ => kernel_rfl
  | c + 17, _, h => omega

end K46.V
set_option Elab.async false
set_option linter.all false
set_option maxRecDepth 100000
set_option maxHeartbeats 1000000
namespace K46.V
open PySem PySem.Spec PyProof.Rows L2 CV

theorem l5 (A B P x4 x5 x6 x7 : Option U) (w : Nat) (h1 : 1 ≤ w) (h2 : w < 17) : la5 [A, B, P, some (wi w), some (fd w), some (wk w), x6, x7, none, none] = .nx [A, B, P, some (wi w), some (fd w), some (wk w), x6, x7, none, none] := by
  match w, h1, h2 with
  | 0, h1, _ => omega
  | 1, _, _ => kernel_rfl
  | 2, _, _ => kernel_rfl
  | 3, _, _ => kernel_rfl
  | 4, _, _ => kernel_rfl
  | 5, _, _ => kernel_rfl
  | 6, _, _ => kernel_rfl
  | 7, _, _ => kernel_rfl
  | 8, _, _ => kernel_rfl
  | 9, _, _ => kernel_rfl
  | 10, _, _ => kernel_rfl
  | 11, _, _ => kernel_rfl
  | 12, _, _ => kernel_rfl
  | 13, _, _ => kernel_rfl
  | 14, _, _ => kernel_rfl
  | 15, _, _ => kernel_rfl
  | 16, _, _ => kernel_rfl
  | c + 17, _, h => omega

theorem l6 (A B P x4 x5 x6 x7 : Option U) (w : Nat) (h1 : 1 ≤ w) (h2 : w < 17) : la6 [A, B, P, some (wi w), some (fd w), some (wk w), x6, x7, none, none] = .nx [A, B, P, some (wi w), some (fd w), some (wk w), x6, x7, none, none] := by
  match w, h1, h2 with
  | 0, h1, _ => omega
  | 1, _, _ => kernel_rfl
  | 2, _, _ => kernel_rfl
  | 3, _, _ => kernel_rfl
  | 4, _, _ => kernel_rfl
  | 5, _, _ => kernel_rfl
  | 6, _, _ => kernel_rfl
  | 7, _, _ => kernel_rfl
  | 8, _, _ => kernel_rfl
  | 9, _, _ => kernel_rfl
  | 10, _, _ => kernel_rfl
  | 11, _, _ => kernel_rfl
  | 12, _, _ => kernel_rfl
  | 13, _, _ => kernel_rfl
  | 14, _, _ => kernel_rfl
  | 15, _, _ => kernel_rfl
  | 16, _, _ => kernel_rfl
  | c + 17, _, h => omega

end K46.V
set_option Elab.async false
set_option linter.all false
set_option maxRecDepth 100000
set_option maxHeartbeats 1000000
namespace K46.V
open PySem PySem.Spec PyProof.Rows L2 CV

theorem r7 (w q : Nat) (h1 : 1 ≤ w) (h2 : w < 17) (hq : q < 9) : u__law_result [.int 1, wi w, .int (100000000000000000000 + (q : Int))] = .ok (.int 0) .non := by
  match w, h1, h2 with
  | 0, h1, _ => omega
  | 1, _, _ =>
    match q, hq with
    | 0, _ => kernel_rfl
    | 1, _ => kernel_rfl
    | 2, _ => kernel_rfl
    | 3, _ => kernel_rfl
    | 4, _ => kernel_rfl
    | 5, _ => kernel_rfl
    | 6, _ => kernel_rfl
    | 7, _ => kernel_rfl
    | 8, _ => kernel_rfl
    | c + 9, h => omega
  | 2, _, _ =>
    match q, hq with
    | 0, _ => kernel_rfl
    | 1, _ => kernel_rfl
    | 2, _ => kernel_rfl
    | 3, _ => kernel_rfl
    | 4, _ => kernel_rfl
    | 5, _ => kernel_rfl
    | 6, _ => kernel_rfl
    | 7, _ => kernel_rfl
    | 8, _ => kernel_rfl
    | c + 9, h => omega
  | 3, _, _ =>
    match q, hq with
    | 0, _ => kernel_rfl
    | 1, _ => kernel_rfl
    | 2, _ => kernel_rfl
    | 3, _ => kernel_rfl
    | 4, _ => kernel_rfl
    | 5, _ => kernel_rfl
    | 6, _ => kernel_rfl
    | 7, _ => kernel_rfl
    | 8, _ => kernel_rfl
    | c + 9, h => omega
  | 4, _, _ =>
    match q, hq with
    | 0, _ => kernel_rfl
    | 1, _ => kernel_rfl
    | 2, _ => kernel_rfl
    | 3, _ => kernel_rfl
    | 4, _ => kernel_rfl
    | 5, _ => kernel_rfl
    | 6, _ => kernel_rfl
    | 7, _ => kernel_rfl
    | 8, _ => kernel_rfl
    | c + 9, h => omega
  | 5, _, _ =>
    match q, hq with
    | 0, _ => kernel_rfl
    | 1, _ => kernel_rfl
    | 2, _ => kernel_rfl
    | 3, _ => kernel_rfl
    | 4, _ => kernel_rfl
    | 5, _ => kernel_rfl
    | 6, _ => kernel_rfl
    | 7, _ => kernel_rfl
    | 8, _ => kernel_rfl
    | c + 9, h => omega
  | 6, _, _ =>
    match q, hq with
    | 0, _ => kernel_rfl
    | 1, _ => kernel_rfl
    | 2, _ => kernel_rfl
    | 3, _ => kernel_rfl
    | 4, _ => kernel_rfl
    | 5, _ => kernel_rfl
    | 6, _ => kernel_rfl
    | 7, _ => kernel_rfl
    | 8, _ => kernel_rfl
    | c + 9, h => omega
  | 7, _, _ =>
    match q, hq with
    | 0, _ => kernel_rfl
    | 1, _ => kernel_rfl
    | 2, _ => kernel_rfl
    | 3, _ => kernel_rfl
    | 4, _ => kernel_rfl
    | 5, _ => kernel_rfl
    | 6, _ => kernel_rfl
    | 7, _ => kernel_rfl
    | 8, _ => kernel_rfl
    | c + 9, h => omega
  | 8, _, _ =>
    match q, hq with
    | 0, _ => kernel_rfl
    | 1, _ => kernel_rfl
    | 2, _ => kernel_rfl
    | 3, _ => kernel_rfl
    | 4, _ => kernel_rfl
    | 5, _ => kernel_rfl
    | 6, _ => kernel_rfl
    | 7, _ => kernel_rfl
    | 8, _ => kernel_rfl
    | c + 9, h => omega
  | 9, _, _ =>
    match q, hq with
    | 0, _ => kernel_rfl
    | 1, _ => kernel_rfl
    | 2, _ => kernel_rfl
    | 3, _ => kernel_rfl
    | 4, _ => kernel_rfl
    | 5, _ => kernel_rfl
    | 6, _ => kernel_rfl
    | 7, _ => kernel_rfl
    | 8, _ => kernel_rfl
    | c + 9, h => omega
  | 10, _, _ =>
    match q, hq with
    | 0, _ => kernel_rfl
    | 1, _ => kernel_rfl
    | 2, _ => kernel_rfl
    | 3, _ => kernel_rfl
    | 4, _ => kernel_rfl
    | 5, _ => kernel_rfl
    | 6, _ => kernel_rfl
    | 7, _ => kernel_rfl
    | 8, _ => kernel_rfl
    | c + 9, h => omega
  | 11, _, _ =>
    match q, hq with
    | 0, _ => kernel_rfl
    | 1, _ => kernel_rfl
    | 2, _ => kernel_rfl
    | 3, _ => kernel_rfl
    | 4, _ => kernel_rfl
    | 5, _ => kernel_rfl
    | 6, _ => kernel_rfl
    | 7, _ => kernel_rfl
    | 8, _ => kernel_rfl
    | c + 9, h => omega
  | 12, _, _ =>
    match q, hq with
    | 0, _ => kernel_rfl
    | 1, _ => kernel_rfl
    | 2, _ => kernel_rfl
    | 3, _ => kernel_rfl
    | 4, _ => kernel_rfl
    | 5, _ => kernel_rfl
    | 6, _ => kernel_rfl
    | 7, _ => kernel_rfl
    | 8, _ => kernel_rfl
    | c + 9, h => omega
  | 13, _, _ =>
    match q, hq with
    | 0, _ => kernel_rfl
    | 1, _ => kernel_rfl
    | 2, _ => kernel_rfl
    | 3, _ => kernel_rfl
    | 4, _ => kernel_rfl
    | 5, _ => kernel_rfl
    | 6, _ => kernel_rfl
    | 7, _ => kernel_rfl
    | 8, _ => kernel_rfl
    | c + 9, h => omega
  | 14, _, _ =>
    match q, hq with
    | 0, _ => kernel_rfl
    | 1, _ => kernel_rfl
    | 2, _ => kernel_rfl
    | 3, _ => kernel_rfl
    | 4, _ => kernel_rfl
    | 5, _ => kernel_rfl
    | 6, _ => kernel_rfl
    | 7, _ => kernel_rfl
    | 8, _ => kernel_rfl
    | c + 9, h => omega
  | 15, _, _ =>
    match q, hq with
    | 0, _ => kernel_rfl
    | 1, _ => kernel_rfl
    | 2, _ => kernel_rfl
    | 3, _ => kernel_rfl
    | 4, _ => kernel_rfl
    | 5, _ => kernel_rfl
    | 6, _ => kernel_rfl
    | 7, _ => kernel_rfl
    | 8, _ => kernel_rfl
    | c + 9, h => omega
  | 16, _, _ =>
    match q, hq with
    | 0, _ => kernel_rfl
    | 1, _ => kernel_rfl
    | 2, _ => kernel_rfl
    | 3, _ => kernel_rfl
    | 4, _ => kernel_rfl
    | 5, _ => kernel_rfl
    | 6, _ => kernel_rfl
    | 7, _ => kernel_rfl
    | 8, _ => kernel_rfl
    | c + 9, h => omega
  | c + 17, _, h => omega

def od1 (q : Nat) : U := ([.non, .int 0, .int 17, .bl true, .str "3", .tup [.int 3], .int (-1), .int 100000000000000000000] : List U).getD q .non
def od2 (q : Nat) : U := ([.non, .int (-1), .bl true, .bl false, .str "0", .tup [.int 0], .lst .o [.int 2]] : List U).getD q .non
theorem g1 (q : Nat) (hq : q < 8) : gIx (.lst .o [.non, .int 0, .int 17, .bl true, .str "3", .tup [.int 3], .int (-1), .int 100000000000000000000]) (.int (q : Int)) = some (od1 q) := by
  match q, hq with
  | 0, _ => kernel_rfl
  | 1, _ => kernel_rfl
  | 2, _ => kernel_rfl
  | 3, _ => kernel_rfl
  | 4, _ => kernel_rfl
  | 5, _ => kernel_rfl
  | 6, _ => kernel_rfl
  | 7, _ => kernel_rfl
  | c + 8, h => omega

theorem g2 (q : Nat) (hq : q < 7) : gIx (.lst .o [.non, .int (-1), .bl true, .bl false, .str "0", .tup [.int 0], .lst .o [.int 2]]) (.int (q : Int)) = some (od2 q) := by
  match q, hq with
  | 0, _ => kernel_rfl
  | 1, _ => kernel_rfl
  | 2, _ => kernel_rfl
  | 3, _ => kernel_rfl
  | 4, _ => kernel_rfl
  | 5, _ => kernel_rfl
  | 6, _ => kernel_rfl
  | c + 7, h => omega

theorem l9 (A B P W x4 x5 x7 : Option U) (q : Nat) (hq : q < 8) : la9 [A, B, P, W, x4, x5, some (frz (od1 q)), x7, none, none] = .nx [A, B, P, W, x4, x5, some (frz (od1 q)), some (.int 1), none, none] := by
  match q, hq with
  | 0, _ => kernel_rfl
  | 1, _ => kernel_rfl
  | 2, _ => kernel_rfl
  | 3, _ => kernel_rfl
  | 4, _ => kernel_rfl
  | 5, _ => kernel_rfl
  | 6, _ => kernel_rfl
  | 7, _ => kernel_rfl
  | c + 8, h => omega

theorem l11 (A B P x4 x5 x7 : Option U) (w q : Nat) (h1 : 1 ≤ w) (h2 : w < 17) (hq : q < 7) : la11 [A, B, P, some (wi w), x4, x5, some (frz (od2 q)), x7, none, none] = .nx [A, B, P, some (wi w), x4, x5, some (frz (od2 q)), x7, none, none] := by
  match w, h1, h2 with
  | 0, h1, _ => omega
  | 1, _, _ =>
    match q, hq with
    | 0, _ => kernel_rfl
    | 1, _ => kernel_rfl
    | 2, _ => kernel_rfl
    | 3, _ => kernel_rfl
    | 4, _ => kernel_rfl
    | 5, _ => kernel_rfl
    | 6, _ => kernel_rfl
    | c + 7, h => omega
  | 2, _, _ =>
    match q, hq with
    | 0, _ => kernel_rfl
    | 1, _ => kernel_rfl
    | 2, _ => kernel_rfl
    | 3, _ => kernel_rfl
    | 4, _ => kernel_rfl
    | 5, _ => kernel_rfl
    | 6, _ => kernel_rfl
    | c + 7, h => omega
  | 3, _, _ =>
    match q, hq with
    | 0, _ => kernel_rfl
    | 1, _ => kernel_rfl
    | 2, _ => kernel_rfl
    | 3, _ => kernel_rfl
    | 4, _ => kernel_rfl
    | 5, _ => kernel_rfl
    | 6, _ => kernel_rfl
    | c + 7, h => omega
  | 4, _, _ =>
    match q, hq with
    | 0, _ => kernel_rfl
    | 1, _ => kernel_rfl
    | 2, _ => kernel_rfl
    | 3, _ => kernel_rfl
    | 4, _ => kernel_rfl
    | 5, _ => kernel_rfl
    | 6, _ => kernel_rfl
    | c + 7, h => omega
  | 5, _, _ =>
    match q, hq with
    | 0, _ => kernel_rfl
    | 1, _ => kernel_rfl
    | 2, _ => kernel_rfl
    | 3, _ => kernel_rfl
    | 4, _ => kernel_rfl
    | 5, _ => kernel_rfl
    | 6, _ => kernel_rfl
    | c + 7, h => omega
  | 6, _, _ =>
    match q, hq with
    | 0, _ => kernel_rfl
    | 1, _ => kernel_rfl
    | 2, _ => kernel_rfl
    | 3, _ => kernel_rfl
    | 4, _ => kernel_rfl
    | 5, _ => kernel_rfl
    | 6, _ => kernel_rfl
    | c + 7, h => omega
  | 7, _, _ =>
    match q, hq with
    | 0, _ => kernel_rfl
    | 1, _ => kernel_rfl
    | 2, _ => kernel_rfl
    | 3, _ => kernel_rfl
    | 4, _ => kernel_rfl
    | 5, _ => kernel_rfl
    | 6, _ => kernel_rfl
    | c + 7, h => omega
  | 8, _, _ =>
    match q, hq with
    | 0, _ => kernel_rfl
    | 1, _ => kernel_rfl
    | 2, _ => kernel_rfl
    | 3, _ => kernel_rfl
    | 4, _ => kernel_rfl
    | 5, _ => kernel_rfl
    | 6, _ => kernel_rfl
    | c + 7, h => omega
  | 9, _, _ =>
    match q, hq with
    | 0, _ => kernel_rfl
    | 1, _ => kernel_rfl
    | 2, _ => kernel_rfl
    | 3, _ => kernel_rfl
    | 4, _ => kernel_rfl
    | 5, _ => kernel_rfl
    | 6, _ => kernel_rfl
    | c + 7, h => omega
  | 10, _, _ =>
    match q, hq with
    | 0, _ => kernel_rfl
    | 1, _ => kernel_rfl
    | 2, _ => kernel_rfl
    | 3, _ => kernel_rfl
    | 4, _ => kernel_rfl
    | 5, _ => kernel_rfl
    | 6, _ => kernel_rfl
    | c + 7, h => omega
  | 11, _, _ =>
    match q, hq with
    | 0, _ => kernel_rfl
    | 1, _ => kernel_rfl
    | 2, _ => kernel_rfl
    | 3, _ => kernel_rfl
    | 4, _ => kernel_rfl
    | 5, _ => kernel_rfl
    | 6, _ => kernel_rfl
    | c + 7, h => omega
  | 12, _, _ =>
    match q, hq with
    | 0, _ => kernel_rfl
    | 1, _ => kernel_rfl
    | 2, _ => kernel_rfl
    | 3, _ => kernel_rfl
    | 4, _ => kernel_rfl
    | 5, _ => kernel_rfl
    | 6, _ => kernel_rfl
    | c + 7, h => omega
  | 13, _, _ =>
    match q, hq with
    | 0, _ => kernel_rfl
    | 1, _ => kernel_rfl
    | 2, _ => kernel_rfl
    | 3, _ => kernel_rfl
    | 4, _ => kernel_rfl
    | 5, _ => kernel_rfl
    | 6, _ => kernel_rfl
    | c + 7, h => omega
  | 14, _, _ =>
    match q, hq with
    | 0, _ => kernel_rfl
    | 1, _ => kernel_rfl
    | 2, _ => kernel_rfl
    | 3, _ => kernel_rfl
    | 4, _ => kernel_rfl
    | 5, _ => kernel_rfl
    | 6, _ => kernel_rfl
    | c + 7, h => omega
  | 15, _, _ =>
    match q, hq with
    | 0, _ => kernel_rfl
    | 1, _ => kernel_rfl
    | 2, _ => kernel_rfl
    | 3, _ => kernel_rfl
    | 4, _ => kernel_rfl
    | 5, _ => kernel_rfl
    | 6, _ => kernel_rfl
    | c + 7, h => omega
  | 16, _, _ =>
    match q, hq with
    | 0, _ => kernel_rfl
    | 1, _ => kernel_rfl
    | 2, _ => kernel_rfl
    | 3, _ => kernel_rfl
    | 4, _ => kernel_rfl
    | 5, _ => kernel_rfl
    | 6, _ => kernel_rfl
    | c + 7, h => omega
  | c + 17, _, h => omega

end K46.V
set_option Elab.async false
set_option linter.all false
set_option maxRecDepth 100000
/-! CVRep: repr and == of values of numbers, lists, tuples -/
namespace CV
open PySem PySem.Spec PyProof.Rows L2
open CC (mapO)
/-- equal to itself, as the layer asks -/
structure Rq (k : Nat) (d : PyData) : Prop where
  ok : dOk k d = true
  rf : PyData.eqv d d = true
theorem Rq.int {i : Int} : Rq 1 (.int i) := ⟨dOk_int, by show (i == i) = true; simp⟩
theorem Rq.str {z : Str} (h : PyData.strOk z = true) : Rq 1 (.str z) := ⟨by
  unfold dOk
  rw [Bool.and_eq_true]
  refine ⟨by unfold PyData.canLay0; exact h, decide_eq_true ?_⟩
  show PyData.depth (.str z) ≤ 1
  unfold PyData.depth; omega, by show (z == z) = true; exact beq_self_eq_true z⟩
theorem eqvAll_refl : ∀ {ds : List PyData}, (∀ d ∈ ds, PyData.eqv d d = true) → PyData.eqvAll ds ds = true
  | [], _ => rfl
  | d :: ds, h => by
    show (PyData.eqv d d && PyData.eqvAll ds ds) = true
    rw [h d List.mem_cons_self, eqvAll_refl fun x m => h x (List.mem_cons_of_mem _ m)]
    rfl
theorem Rq.list {k : Nat} {ds : List PyData} (h : ∀ d ∈ ds, Rq k d) : Rq (k + 1) (.list ds) := ⟨dOk_list fun d m => (h d m).ok, by
  show PyData.eqvAll ds ds = true
  exact eqvAll_refl fun d m => (h d m).rf⟩
theorem Rq.tup {k : Nat} {ds : List PyData} (h : ∀ d ∈ ds, Rq k d) : Rq (k + 1) (.tuple ds) := ⟨dOk_tup fun d m => (h d m).ok, by
  show PyData.eqvAll ds ds = true
  exact eqvAll_refl fun d m => (h d m).rf⟩
theorem Rq.mono {k j : Nat} {d : PyData} (h : Rq k d) (l : k ≤ j) : Rq j d := ⟨by
  have := h.ok
  unfold dOk at this ⊢
  rw [Bool.and_eq_true] at this ⊢
  exact ⟨this.1, decide_eq_true (Nat.le_trans (of_decide_eq_true this.2) l)⟩, h.rf⟩
theorem eqD_self {x y : U} {k : Nat} {d : PyData} (hx : datU 12 x = some d) (hy : datU 12 y = some d) (h : Rq k d) (hk : k ≤ 64) : gEqD x y = some true := by
  unfold gEqD
  rw [hx, hy]
  dsimp only
  rw [if_pos (by rw [shaped_of h.ok hk]; rfl), h.rf]
theorem gNe_self {x y : U} {k : Nat} {d : PyData} (hx : datU 12 x = some d) (hy : datU 12 y = some d) (h : Rq k d) (hk : k ≤ 64) (hi : ∀ i, x ≠ .int i) : gNe x y = some (.bl false) := by
  have : gEqB x y = gEqD x y := by
    unfold gEqB
    cases x <;> first | rfl | exact absurd rfl (hi _)
  unfold gNe
  rw [this, eqD_self hx hy h hk]
  rfl
theorem gEq_self {x y : U} {k : Nat} {d : PyData} (hx : datU 12 x = some d) (hy : datU 12 y = some d) (h : Rq k d) (hk : k ≤ 64) (hi : ∀ i, x ≠ .int i) : gEq x y = some (.bl true) := by
  have : gEqB x y = gEqD x y := by
    unfold gEqB
    cases x <;> first | rfl | exact absurd rfl (hi _)
  unfold gEq
  rw [this, eqD_self hx hy h hk]
theorem strOk_app {x y : Str} (h1 : PyData.strOk x = true) (h2 : PyData.strOk y = true) : PyData.strOk (x ++ y) = true := by
  unfold PyData.strOk at h1 h2 ⊢
  show (x.cps ++ y.cps).all _ = true
  rw [Array.all_append, h1, h2]
  rfl
/-- whose text is at most B long -/
structure Rp (k B : Nat) (d : PyData) : Prop where
  q : Rq k d
  sh : d.showable = true
  le : d.shown.length ≤ B
  so : PyData.strOk d.shown = true
theorem int_strOk : ∀ n : Fin 100, PyData.strOk (PyData.shown (.int (n.1 : Int))) = true := by decide +kernel
theorem textFrom_ok : ∀ (ts : List Str) (k : Nat) (acc : Str), PyData.strOk acc = true → (∀ t ∈ ts, PyData.strOk t = true) → PyData.strOk (textFrom k acc ts) = true
  | [], _, _, h, _ => h
  | t :: ts, k, acc, h, ht => by
    refine textFrom_ok ts (k + 1) (acc ++ (if k > 0 then ", " else "" : String) ++ t) (strOk_app (strOk_app h ?_) (ht t List.mem_cons_self)) fun x m => ht x (List.mem_cons_of_mem _ m)
    split <;> decide +kernel
theorem join_ok : ∀ ts : List Str, (∀ t ∈ ts, PyData.strOk t = true) → PyData.strOk (Str.join ", " ts) = true
  | [], _ => by decide +kernel
  | [t], h => h t List.mem_cons_self
  | t :: u :: r, h => strOk_app (strOk_app (h t List.mem_cons_self) (by decide +kernel)) (join_ok (u :: r) fun x m => h x (List.mem_cons_of_mem _ m))
theorem shownAll_ok : ∀ {ds : List PyData}, (∀ d ∈ ds, PyData.strOk d.shown = true) → ∀ t ∈ PyData.shownAll ds, PyData.strOk t = true
  | [], _, t, m => by cases m
  | d :: ds, h, t, m => by
    rcases List.mem_cons.mp (show t ∈ PyData.shown d :: PyData.shownAll ds from m) with rfl | m
    · exact h d List.mem_cons_self
    · exact shownAll_ok (fun x m => h x (List.mem_cons_of_mem _ m)) t m
theorem int_shown : ∀ n : Fin 100, (PyData.shown (.int (n.1 : Int))).length ≤ 3 := by decide +kernel
theorem int_showable : ∀ n : Fin 100, PyData.showable (.int (n.1 : Int)) = true := by decide +kernel
theorem Rp.int {n : Nat} (h : n < 100) : Rp 1 3 (.int (n : Int)) := ⟨.int, int_showable ⟨n, h⟩, int_shown ⟨n, h⟩, int_strOk ⟨n, h⟩⟩
theorem textFrom_le {B : Nat} : ∀ (ts : List Str) (k : Nat) (acc : Str), (∀ t ∈ ts, t.length ≤ B) → (textFrom k acc ts).length ≤ acc.length + ts.length * (B + 2)
  | [], k, acc, _ => by show acc.length ≤ _; simp
  | t :: ts, k, acc, h => by
    show (textFrom (k + 1) (acc ++ (if k > 0 then ", " else "" : String) ++ t) ts).length ≤ _
    have ih := textFrom_le ts (k + 1) (acc ++ (if k > 0 then ", " else "" : String) ++ t) fun x m => h x (List.mem_cons_of_mem _ m)
    have ht := h t List.mem_cons_self
    have e : (acc ++ (if k > 0 then ", " else "" : String) ++ t).length ≤ acc.length + 2 + t.length := by
      rw [strLen_append, strLen_append]
      split
      · show acc.length + 2 + t.length ≤ _; omega
      · show acc.length + 0 + t.length ≤ _; omega
    rw [List.length_cons, Nat.succ_mul]
    omega
theorem shownAll_le {B : Nat} : ∀ {ds : List PyData}, (∀ d ∈ ds, d.shown.length ≤ B) → (∀ t ∈ PyData.shownAll ds, t.length ≤ B) ∧ (PyData.shownAll ds).length = ds.length
  | [], _ => ⟨fun t m => (by cases m), rfl⟩
  | d :: ds, h => by
    obtain ⟨h1, h2⟩ := shownAll_le (ds := ds) fun x m => h x (List.mem_cons_of_mem _ m)
    refine ⟨fun t m => ?_, by show (PyData.shownAll ds).length + 1 = _; rw [h2]; rfl⟩
    rcases List.mem_cons.mp (show t ∈ PyData.shown d :: PyData.shownAll ds from m) with rfl | m
    · exact h d List.mem_cons_self
    · exact h1 t m
theorem showableAll_of : ∀ {ds : List PyData}, (∀ d ∈ ds, d.showable = true) → PyData.showableAll ds = true
  | [], _ => rfl
  | d :: ds, h => by
    show (PyData.showable d && PyData.showableAll ds) = true
    rw [h d List.mem_cons_self, showableAll_of fun x m => h x (List.mem_cons_of_mem _ m)]
    rfl
theorem piled_le {B : Nat} : ∀ {ts : List Str}, (∀ t ∈ ts, t.length ≤ B) → piled ts ≤ ts.length * (B + 2)
  | [], _ => by rw [piled_nil]; omega
  | t :: ts, h => by
    have := piled_le (ts := ts) fun x m => h x (List.mem_cons_of_mem _ m)
    have := h t List.mem_cons_self
    rw [piled_cons, List.length_cons, Nat.succ_mul]
    omega
theorem Rp.list {k B : Nat} {ds : List PyData} (h : ∀ d ∈ ds, Rp k B d) : Rp (k + 1) (2 + ds.length * (B + 2)) (.list ds) := by
  obtain ⟨h1, h2⟩ := shownAll_le (B := B) fun d m => (h d m).le
  refine ⟨.list fun d m => (h d m).q, showableAll_of fun d m => (h d m).sh, ?_, strOk_app (textFrom_ok _ _ _ (by decide +kernel) (shownAll_ok fun d m => (h d m).so)) (by decide +kernel)⟩
  show (textFrom 0 "[" (PyData.shownAll ds) ++ "]").length ≤ _
  have := textFrom_le (B := B) (PyData.shownAll ds) 0 "[" h1
  rw [h2] at this
  rw [strLen_append]
  have e1 : (("[" : String) : Str).length = 1 := rfl
  have e2 : (("]" : String) : Str).length = 1 := rfl
  rw [e1] at this
  omega
theorem Rp.tup {k B : Nat} {ds : List PyData} (h : ∀ d ∈ ds, Rp k B d) : Rp (k + 1) (3 + ds.length * (B + 2)) (.tuple ds) := by
  obtain ⟨h1, h2⟩ := shownAll_le (B := B) fun d m => (h d m).le
  refine ⟨.tup fun d m => (h d m).q, showableAll_of fun d m => (h d m).sh, ?_, strOk_app (strOk_app (by decide +kernel) (join_ok _ (shownAll_ok fun d m => (h d m).so))) (by split <;> decide +kernel)⟩
  show (("(" : Str) ++ Str.join ", " (PyData.shownAll ds) ++ (if (PyData.shownAll ds).length == 1 then ",)" else ")" : String)).length ≤ _
  have hp := piled_le h1
  rw [h2] at hp
  have hj : (Str.join ", " (PyData.shownAll ds)).length ≤ piled (PyData.shownAll ds) := by
    by_cases e : PyData.shownAll ds = []
    · rw [e]; exact Nat.zero_le _
    · have := join_length_add _ e
      omega
  rw [strLen_append, strLen_append]
  have e1 : (("(" : String) : Str).length = 1 := rfl
  have e2 : ((if (PyData.shownAll ds).length == 1 then ",)" else ")" : String) : Str).length ≤ 2 := by
    split
    · show 2 ≤ 2; omega
    · show 1 ≤ 2; omega
  rw [e1]
  omega
theorem Rp.mono {k B B' : Nat} {d : PyData} (h : Rp k B d) (hb : B ≤ B') : Rp k B' d := ⟨h.q, h.sh, Nat.le_trans h.le hb, h.so⟩
theorem canLay_of {k : Nat} {d : PyData} (h : dOk k d = true) : d.canLay0 = true ∧ d.depth ≤ k := by
  unfold dOk at h
  rw [Bool.and_eq_true] at h
  exact ⟨h.1, of_decide_eq_true h.2⟩
theorem repr_ok {x : U} {k B : Nat} {d : PyData} (hx : datU 12 x = some d) (h : Rp k B d) (hk : k ≤ 40) (hB : B ≤ 1000000) : fRepr [x] = some (.str d.shown) := by
  obtain ⟨h1, h2⟩ := canLay_of h.q.ok
  have h3 := PyData.hasDict_of_canLay d h1
  unfold fRepr
  dsimp only
  rw [hx]
  dsimp only
  rw [if_pos (by rw [h.sh, h3, decide_eq_true (Nat.le_trans h2 hk), decide_eq_true (Nat.le_trans h.le hB)]; rfl)]
theorem ne_str {a : Str} (h : PyData.strOk a = true) : gNe (.str a) (.str a) = some (.bl false) := gNe_self (d := .str a) rfl rfl (.str h) (by decide) (fun i z => nomatch z)
theorem St.chainF {f f' : U → U → Option U} {ma mb mc : VL → RU U} {v v1 v2 : VL} {x y : U} (h : ma v = .ok x v1) (h2 : mb v1 = .ok y v2) (hf : f x y = some (.bl false)) : CV.eChain f f' ma mb mc v = .ok (.bl false) v2 := by
  unfold CV.eChain; rw [h]; unfold RU.bind; dsimp only; rw [h2]; dsimp only; rw [hf]
theorem St.tryR {mb : VL → RSU} {hs : List HCV} {v v1 : VL} {u : U} (h : mb v = .ret u v1) : CV.sTry mb hs v = .ret u v1 := by unfold CV.sTry; rw [h]
theorem St.tryN {mb : VL → RSU} {hs : List HCV} {v v1 : VL} (h : mb v = .nx v1) : CV.sTry mb hs v = .nx v1 := by unfold CV.sTry; rw [h]
theorem St.tryX {mb : VL → RSU} {hs : List HCV} {v v1 : VL} {u : U} {k : Nat} (h : mb v = .exc k u v1) : CV.sTry mb hs v = CV.hRun hs k u v1 := by unfold CV.sTry; rw [h]
theorem St.hrunR {k i : Nat} {no : List Nat} {su : U → VL → RSU} {r : List HCV} {u u2 : U} {v v2 : VL} (hi : i < v.length) (h : su u (v.set i none) = .ret u2 v2) : CV.hRun (⟨k, no, some i, su⟩ :: r) k u v = .ret u2 v2 := by
  unfold CV.hRun
  rw [if_pos rfl]
  dsimp only
  rw [if_pos hi, h]
theorem St.retX {me : VL → RU U} {v v1 : VL} {u : U} {k : Nat} (h : me v = .exc k u v1) : CV.sRet me v = .exc k u v1 := by
  unfold CV.sRet; rw [h]; rfl
theorem St.methX {k : Nat} {F : List U → RF} {ds : List U} {mo : VL → RU U} {mr : VL → RU (List U)} {v v1 v2 : VL} {o u o1 : U} {us : List U} {n : Nat} (h : mo v = .ok o v1) (hc : isCU k o = true) (h2 : mr v1 = .ok us v2) (hf : F (o :: (us ++ ds)) = .exc n u o1) : CV.eMeth k F ds mo mr v = .exc n u v2 := by
  unfold CV.eMeth; rw [h]; unfold RU.bind; dsimp only; rw [hc]; dsimp only; rw [h2]; dsimp only; rw [hf]; rfl
theorem St.consX {ma : VL → RU U} {mr : VL → RU (List U)} {v v1 v2 : VL} {x u : U} {k : Nat} (h : ma v = .ok x v1) (h2 : mr v1 = .exc k u v2) : CV.aCons ma mr v = .exc k u v2 := by
  unfold CV.aCons; rw [h]; unfold RU.bind; dsimp only; rw [h2]
theorem St.consX0 {ma : VL → RU U} {mr : VL → RU (List U)} {v v1 : VL} {u : U} {k : Nat} (h : ma v = .exc k u v1) : CV.aCons ma mr v = .exc k u v1 := by
  unfold CV.aCons; rw [h]; rfl
theorem St.lstX {mr : VL → RU (List U)} {v v1 : VL} {u : U} {k : Nat} (h : mr v = .exc k u v1) : CV.eLst mr v = .exc k u v1 := by
  unfold CV.eLst; rw [h]; rfl
theorem St.andTT {ma mb : VL → RU Bool} {v : VL} {a b : Bool} (h : ma v = .ok a v) (h2 : mb v = .ok b v) : CV.tAndT ma mb v = .ok (a && b) v := by
  unfold CV.tAndT; rw [h]; unfold RU.bind; dsimp only
  cases a
  · rfl
  · exact h2
/-! comprehensions -/
theorem lc_gen {ct : CC.CTg} {t : VL → RU Bool} {e : VL → RU U} {v : VL} {w : U → VL} {p : U → Bool} {r : U → U} : ∀ (us : List U), (∀ u ∈ us, bindV u v ct = some (w u) ∧ t (w u) = .ok (p u) (w u) ∧ (p u = true → e (w u) = .ok (r u) (w u)) ∧ wipeV (w u) ct.slots = v) → lcL ct t e us v = .ok ((us.filter p).map r) v
  | [], _ => rfl
  | u :: us, h => by
    obtain ⟨h1, h2, h3, h4⟩ := h u List.mem_cons_self
    have ih := lc_gen (ct := ct) (t := t) (e := e) (v := v) (w := w) (p := p) (r := r) us fun x m => h x (List.mem_cons_of_mem _ m)
    unfold lcL
    rw [h1]
    dsimp only
    rw [h2]
    cases hp : p u with
    | false =>
      dsimp only
      rw [h4, ih, List.filter_cons_of_neg (by simp [hp])]
    | true =>
      dsimp only
      rw [h3 hp]
      dsimp only
      rw [h4, ih, List.filter_cons_of_pos hp]
      rfl
end CV
set_option Elab.async false
set_option linter.all false
set_option maxRecDepth 100000
/-! CVQ: numbers that are naturals; further one-step lemmas -/
namespace CV
open PySem PySem.Spec PyProof.Rows L2
namespace Q
theorem ofN (a b : Nat) (h : a = b) : U.int (a : Int) = wi b := by rw [h]; rfl
theorem add (a b : Nat) : gAdd (wi a) (wi b) = some (wi (a + b)) := by
  show some (U.int ((a : Int) + (b : Int))) = some (U.int ((a + b : Nat) : Int))
  rw [Int.natCast_add]
theorem sub {a b : Nat} (h : b ≤ a) : gSub (wi a) (wi b) = some (wi (a - b)) := by
  show some (U.int ((a : Int) - (b : Int))) = some (U.int ((a - b : Nat) : Int))
  rw [Int.natCast_sub h]
theorem i64n {a : Nat} (h : a < 1000000) : CC.i64 (a : Int) = true := by
  obtain ⟨i, hi⟩ : ∃ i : Int, i = (a : Int) := ⟨_, rfl⟩
  rw [← hi]
  unfold CC.i64
  rw [decide_eq_true (show -(2 ^ 64) < i by omega), decide_eq_true (show i < 2 ^ 64 by omega)]; rfl
theorem mul {a b : Nat} (h : a < 1000000) : gMul (wi a) (wi b) = some (wi (a * b)) := by
  show (if CC.i64 (a : Int) || CC.i64 (b : Int) then some (U.int ((a : Int) * (b : Int))) else none) = some (U.int ((a * b : Nat) : Int))
  rw [i64n h, Bool.true_or, if_pos rfl, Int.natCast_mul]
theorem mod {a b : Nat} (h : 0 < b) : gMod (wi a) (wi b) = some (wi (a % b)) := by
  show (if (0 : Int) < (b : Int) then some (U.int ((a : Int) % (b : Int))) else none) = some (U.int ((a % b : Nat) : Int))
  rw [if_pos (by omega), Int.natCast_emod]
theorem fdiv {a b : Nat} (h : 0 < b) (h2 : b < 1000000) : gFdiv (wi a) (wi b) = some (wi (a / b)) := by
  show (if (0 : Int) < (b : Int) ∧ (b : Int) < 1073741824 then some (U.int ((a : Int) / (b : Int))) else none) = some (U.int ((a / b : Nat) : Int))
  rw [if_pos (by omega), Int.natCast_ediv]
theorem lt (a b : Nat) : gLt (wi a) (wi b) = some (.bl (decide (a < b))) := by
  show some (U.bl (decide ((a : Int) < (b : Int)))) = _
  rw [show decide ((a : Int) < (b : Int)) = decide (a < b) from decide_eq_decide.mpr Int.ofNat_lt]
theorem le (a b : Nat) : gLe (wi a) (wi b) = some (.bl (decide (a ≤ b))) := by
  show some (U.bl (decide ((a : Int) ≤ (b : Int)))) = _
  rw [show decide ((a : Int) ≤ (b : Int)) = decide (a ≤ b) from decide_eq_decide.mpr Int.ofNat_le]
theorem gt (a b : Nat) : gGt (wi a) (wi b) = some (.bl (decide (b < a))) := lt b a
theorem ge (a b : Nat) : gGe (wi a) (wi b) = some (.bl (decide (b ≤ a))) := le b a
theorem lt_t {a b : Nat} (h : a < b) : gLt (wi a) (wi b) = some (.bl true) := by rw [lt, decide_eq_true h]
theorem lt_f {a b : Nat} (h : ¬ a < b) : gLt (wi a) (wi b) = some (.bl false) := by rw [lt, decide_eq_false h]
theorem le_t {a b : Nat} (h : a ≤ b) : gLe (wi a) (wi b) = some (.bl true) := by rw [le, decide_eq_true h]
theorem le_f {a b : Nat} (h : ¬ a ≤ b) : gLe (wi a) (wi b) = some (.bl false) := by rw [le, decide_eq_false h]
theorem gt_t {a b : Nat} (h : b < a) : gGt (wi a) (wi b) = some (.bl true) := lt_t h
theorem gt_f {a b : Nat} (h : ¬ b < a) : gGt (wi a) (wi b) = some (.bl false) := lt_f h
theorem ge_t {a b : Nat} (h : b ≤ a) : gGe (wi a) (wi b) = some (.bl true) := le_t h
theorem ge_f {a b : Nat} (h : ¬ b ≤ a) : gGe (wi a) (wi b) = some (.bl false) := le_f h
theorem eqB_wi (a b : Nat) : gEqB (wi a) (wi b) = some (decide (a = b)) := by
  show some (((a : Int)) == (b : Int)) = some (decide (a = b))
  by_cases h : a = b
  · subst h; simp
  · have : ¬ (a : Int) = (b : Int) := by omega
    simp [h, this]
theorem eq (a b : Nat) : gEq (wi a) (wi b) = some (.bl (decide (a = b))) := by unfold gEq; rw [eqB_wi]
theorem ne (a b : Nat) : gNe (wi a) (wi b) = some (.bl (!decide (a = b))) := by unfold gNe; rw [eqB_wi]
theorem eq_t {a b : Nat} (h : a = b) : gEq (wi a) (wi b) = some (.bl true) := by rw [eq, decide_eq_true h]
theorem eq_f {a b : Nat} (h : ¬ a = b) : gEq (wi a) (wi b) = some (.bl false) := by rw [eq, decide_eq_false h]
theorem ne_t {a b : Nat} (h : ¬ a = b) : gNe (wi a) (wi b) = some (.bl true) := by rw [ne, decide_eq_false h]; rfl
theorem ne_f {a b : Nat} (h : a = b) : gNe (wi a) (wi b) = some (.bl false) := by rw [ne, decide_eq_true h]; rfl
theorem self (o : U) {d : PyData} (h : datU 12 o = some d) (q : gEqB o o = some true) : gEq o o = some (.bl true) := by unfold gEq; rw [q]
theorem max2 (a b : Nat) : fMax2 [wi a, wi b] = some (wi (max a b)) := by
  show some (U.int (if (b : Int) > (a : Int) then (b : Int) else (a : Int))) = some (U.int ((max a b : Nat) : Int))
  by_cases h : (b : Int) > (a : Int)
  · rw [if_pos h, Nat.max_eq_right (by omega)]
  · rw [if_neg h, Nat.max_eq_left (by omega)]
theorem min2 (a b : Nat) : fMin2 [wi a, wi b] = some (wi (min a b)) := by
  show some (U.int (if (b : Int) < (a : Int) then (b : Int) else (a : Int))) = some (U.int ((min a b : Nat) : Int))
  by_cases h : (b : Int) < (a : Int)
  · rw [if_pos h, Nat.min_eq_right (by omega)]
  · rw [if_neg h, Nat.min_eq_left (by omega)]
theorem len (z : Fl) (us : List U) : fLen [.lst z us] = some (wi us.length) := rfl
theorem lenT (us : List U) : fLen [.tup us] = some (wi us.length) := rfl
theorem lenF (ns : List Int) : fLen [.frz ns] = some (wi ns.length) := rfl
theorem toInt (b : Bool) : fInt [.bl b] = some (wi (if b then 1 else 0)) := by cases b <;> rfl
end Q
namespace St
variable {v v1 v2 v3 v4 : VL} {x y z u o o1 o2 : U} {us us1 : List U} {i j : Nat}
theorem frzV (h : v[i]? = some (some u)) (n : noO u = true) : CV.eFrz i v = .ok u v := by unfold CV.eFrz; rw [h]; dsimp only; rw [if_pos n]
theorem frzO (h : v[i]? = some (some u)) (n : noO u = false) : CV.eFrz i v = .ok (CV.frz u) (v.set i (some (CV.frz u))) := by unfold CV.eFrz; rw [h]; dsimp only; rw [n]; rfl
theorem mov (h : v[i]? = some (some u)) : CV.eMov i v = .ok u (v.set i none) := by unfold CV.eMov; rw [h]
theorem fre {m : VL → RU U} (h : m v = .ok u v1) : CV.eFre m v = .ok (CV.frz u) v1 := by unfold CV.eFre; rw [h]
theorem eifT {mt : VL → RU Bool} {ma mb : VL → RU U} (h : mt v = .ok true v1) (h2 : ma v1 = .ok u v2) : CV.eIf mt ma mb v = .ok u v2 := by unfold CV.eIf; rw [h]; exact h2
theorem eifF {mt : VL → RU Bool} {ma mb : VL → RU U} (h : mt v = .ok false v1) (h2 : mb v1 = .ok u v2) : CV.eIf mt ma mb v = .ok u v2 := by unfold CV.eIf; rw [h]; exact h2
theorem andVT {ma mb : VL → RU U} (h : ma v = .ok (.bl true) v1) (h2 : mb v1 = .ok u v2) : CV.eAndV ma mb v = .ok u v2 := (andT h).trans h2
theorem orVF {ma mb : VL → RU U} (h : ma v = .ok (.bl false) v1) (h2 : mb v1 = .ok u v2) : CV.eOrV ma mb v = .ok u v2 := by unfold CV.eOrV; rw [h]; exact h2
theorem orVT {ma mb : VL → RU U} (h : ma v = .ok (.bl true) v1) : CV.eOrV ma mb v = .ok (.bl true) v1 := by unfold CV.eOrV; rw [h]; first | done | rfl
theorem tAndTT {ma mb : VL → RU Bool} {b : Bool} (h : ma v = .ok true v1) (h2 : mb v1 = .ok b v2) : CV.tAndT ma mb v = .ok b v2 := by unfold CV.tAndT; rw [h]; exact h2
theorem tAndTF {ma mb : VL → RU Bool} (h : ma v = .ok false v1) : CV.tAndT ma mb v = .ok false v1 := by unfold CV.tAndT; rw [h]; rfl
theorem tOrTF {ma mb : VL → RU Bool} {b : Bool} (h : ma v = .ok false v1) (h2 : mb v1 = .ok b v2) : CV.tOrT ma mb v = .ok b v2 := by unfold CV.tOrT; rw [h]; exact h2
theorem tOrTT {ma mb : VL → RU Bool} (h : ma v = .ok true v1) : CV.tOrT ma mb v = .ok true v1 := by unfold CV.tOrT; rw [h]; rfl
theorem fld {k n : Nat} {mo : VL → RU U} {zf : Fl} {fs : List (Nat × U)} (h : mo v = .ok (.ins zf k fs) v1) (hf : lookFU n fs = some u) (e : itm zf u = x) : CV.eFld k n mo v = .ok x v1 := by
  unfold CV.eFld; rw [h]; unfold RU.bind; dsimp only; rw [if_pos rfl, hf]; dsimp only; rw [e]
theorem rev {mo : VL → RU U} {us : List U} (h : mo v = .ok o v1) (h2 : CV.lfU o = some us) (hb : us.all noB = true) : CV.eRev mo v = .ok (.lst .o us.reverse) v1 := by
  unfold CV.eRev; rw [h]; unfold RU.bind; dsimp only; rw [h2]; dsimp only; rw [if_pos hb]
theorem rgl {mi : VL → RU (List U)} (h : mi v = .ok us v1) (hl : us.length ≤ 1000000) : CV.eRgL mi v = .ok (.lst .o us) v1 := by
  unfold CV.eRgL; rw [h]; unfold RU.bind; dsimp only; rw [if_pos hl]
theorem par3 {g1 g2 g3 : U → VL → Option VL} {mr : VL → RU (List U)} {w : U} (h : mr v = .ok [x, y, w] v1) (h1 : g1 x v1 = some v2) (h2 : g2 y v2 = some v3) (h3 : g3 w v3 = some v4) : CV.sPar3 g1 g2 g3 mr v = .nx v4 := by
  unfold CV.sPar3; rw [h]; dsimp only; rw [h1]; dsimp only; rw [h2]; dsimp only; rw [h3]; rfl
theorem augV {f : U → U → Option U} {me : VL → RU U} (h0 : v[i]? = some (some x)) (n : noO x = true) (h : me v = .ok y v1) (hf : f x y = some z) : CV.sAug f i me v = .nx (v1.set i (some z)) := by
  unfold CV.sAug; rw [varN h0 n]; unfold RU.toS; dsimp only; rw [h]; dsimp only; rw [hf]
theorem gtup {n : Nat} {r : List U → VL → Option VL} (hl : us.length = n) (h : r us v = some v1) : CV.gTupT n r (.tup us) v = some v1 := by
  unfold CV.gTupT; dsimp only; rw [if_pos hl]; exact h
theorem gunp {n : Nat} {r : List U → VL → Option VL} (hi : itemsU u = some us) (hl : us.length = n) (h : r us v = some v1) : CV.gUnpT n r u v = some v1 := by
  unfold CV.gUnpT; rw [hi]; dsimp only; rw [if_pos hl]; exact h
theorem gsc {g : U → VL → Option VL} {r : List U → VL → Option VL} (h : g x v = some v1) (h2 : r us v1 = some v2) : CV.gsCons g r (x :: us) v = some v2 := by
  unfold CV.gsCons; dsimp only; rw [h]; exact h2
theorem asgX {g : U → VL → Option VL} {me : VL → RU U} {k : Nat} (h : me v = .exc k u v1) : CV.sAsg g me v = .exc k u v1 := by
  unfold CV.sAsg; rw [h]; rfl
theorem for_brk {g : U → VL → Option VL} {b : VL → RSU} (hg : g u v = some v1) (hb : b v1 = .brk v2) : CV.forL g b (u :: us) v = .nx v2 := by
  rw [CV.forL, hg]; dsimp only; rw [hb]
theorem for_ret {g : U → VL → Option VL} {b : VL → RSU} (hg : g u v = some v1) (hb : b v1 = .ret x v2) : CV.forL g b (u :: us) v = .ret x v2 := by
  rw [CV.forL, hg]; dsimp only; rw [hb]
theorem for_exc {g : U → VL → Option VL} {b : VL → RSU} {k : Nat} (hg : g u v = some v1) (hb : b v1 = .exc k x v2) : CV.forL g b (u :: us) v = .exc k x v2 := by
  rw [CV.forL, hg]; dsimp only; rw [hb]
theorem for_ct {g : U → VL → Option VL} {b : VL → RSU} (hg : g u v = some v1) (hb : b v1 = .ct v2) : CV.forL g b (u :: us) v = CV.forL g b us v2 := by
  rw [CV.forL, hg]; dsimp only; rw [hb]; exact fV_eq _ _
theorem seqB {m k : VL → RSU} (h : m v = .brk v1) : CV.sSeq m k v = .brk v1 := by unfold CV.sSeq; rw [h]
theorem seqC {m k : VL → RSU} (h : m v = .ct v1) : CV.sSeq m k v = .ct v1 := by unfold CV.sSeq; rw [h]
theorem consX2 {ma : VL → RU U} {mr : VL → RU (List U)} {k : Nat} (h : ma v = .ok x v1) (h2 : mr v1 = .exc k u v2) : CV.aCons ma mr v = .exc k u v2 := by
  unfold CV.aCons; rw [h]; unfold RU.bind; dsimp only; rw [h2]
theorem callA {F : List U → RF} {ds : List U} {mr : VL → RU (List U)} {k : Nat} (h : mr v = .exc k u v1) : CV.eCall F ds mr v = .exc k u v1 := by
  unfold CV.eCall; rw [h]; rfl
theorem makeX {k n : Nat} {F : List U → RF} {ds : List U} {mr : VL → RU (List U)} (h : mr v = .ok us v1) (hf : F (.ins .o k [] :: (us ++ ds)) = .exc n u o) : CV.eMakeM k F ds mr v = .exc n u v1 := by
  unfold CV.eMakeM; rw [h]; unfold RU.bind; dsimp only; rw [hf]; rfl
theorem hrunS {k : Nat} {q : HCV} {r : List HCV} (h : k ≠ q.cx) (h2 : k ∈ q.no) : CV.hRun (q :: r) k u v = CV.hRun r k u v := by
  rw [CV.hRun, if_neg h, if_pos h2]
theorem hrunN {k i : Nat} {no : List Nat} {su : U → VL → RSU} {r : List HCV} (hi : i < v.length) (h : su u (v.set i none) = .nx v2) : CV.hRun (⟨k, no, some i, su⟩ :: r) k u v = .nx (v2.set i none) := by
  rw [CV.hRun, if_pos rfl]; dsimp only; rw [if_pos hi, h]
theorem hrunBR {k : Nat} {no : List Nat} {su : U → VL → RSU} {r : List HCV} (h : su u v = .ret x v2) : CV.hRun (⟨k, no, none, su⟩ :: r) k u v = .ret x v2 := by
  rw [CV.hRun, if_pos rfl]; dsimp only; rw [h]
theorem hrunBN {k : Nat} {no : List Nat} {su : U → VL → RSU} {r : List HCV} (h : su u v = .nx v2) : CV.hRun (⟨k, no, none, su⟩ :: r) k u v = .nx v2 := by
  rw [CV.hRun, if_pos rfl]; dsimp only; rw [h]
theorem wh_brk {t : VL → RU Bool} {b : VL → RSU} {n : Nat} (h : t v = .ok true v1) (h2 : b v1 = .brk v2) : CV.whV t b (n + 1) v = .nx v2 := by
  rw [CV.whV, h]; dsimp only; rw [h2]
theorem wh_ret {t : VL → RU Bool} {b : VL → RSU} {n : Nat} (h : t v = .ok true v1) (h2 : b v1 = .ret x v2) : CV.whV t b (n + 1) v = .ret x v2 := by
  rw [CV.whV, h]; dsimp only; rw [h2]
theorem binX {f : U → U → Option U} {ma mb : VL → RU U} {k : Nat} (h : ma v = .exc k u v1) : CV.eBin f ma mb v = .exc k u v1 := by
  unfold CV.eBin; rw [h]; rfl
theorem binX2 {f : U → U → Option U} {ma mb : VL → RU U} {k : Nat} (h : ma v = .ok x v1) (h2 : mb v1 = .exc k u v2) : CV.eBin f ma mb v = .exc k u v2 := by
  unfold CV.eBin; rw [h]; unfold RU.bind; dsimp only; rw [h2]
end St
end CV
set_option Elab.async false
set_option linter.all false
set_option maxRecDepth 100000
set_option maxHeartbeats 1000000
namespace K46.V
open PySem PySem.Spec PyProof.Rows L2 CV

abbrev vS (ns : List Int) (x1 x2 x3 x4 x5 x6 x7 : Option U) : VL := [some (.frz ns), x1, x2, x3, x4, x5, x6, x7, none, none]
theorem la_ok {ns : List Int} {k : Nat} {x2 x3 x4 x5 x6 x7 : Option U} (hk : k < 64) : ∃ y2 y3 y4 y5 y6 y7 : Option U, v_law_b1 (vS ns (some (wi k)) x2 x3 x4 x5 x6 x7) = .nx (vS ns (some (wi k)) y2 y3 y4 y5 y6 y7) := by
  obtain ⟨a, b, ha, hb, pl⟩ := pool_spec ns k hk
  have s1 : la1 (vS ns (some (wi k)) x2 x3 x4 x5 x6 x7) = .nx (vS ns (some (wi k)) (some (PL a b)) x3 x4 x5 x6 x7) := St.asgM (i := 2) (u := PL a b) (St.vb (St.call (us := [.frz ns, wi k]) (ds := []) (St.cons (St.varB (i := 0) (u := .frz ns) rfl) (St.cons (St.varB (i := 1) (u := wi k) rfl) St.nil)) pl) rfl)
  obtain ⟨a1, b1, q, ha1, hb1, hq, tk⟩ := take_nat a b 16 ha hb (by decide) (by decide)
  obtain ⟨w, hw⟩ : ∃ w, w = 1 + q := ⟨_, rfl⟩
  have h1 : 1 ≤ w := by omega
  have h2 : w < 17 := by omega
  have s2 : la2 (vS ns (some (wi k)) (some (PL a b)) x3 x4 x5 x6 x7) = .nx (vS ns (some (wi k)) (some (PL a1 b1)) (some (wi w)) x4 x5 x6 x7) := by
    rw [hw]
    exact (St.asgF (i := 3) (u := wi (1 + q)) (St.bin (x := wi 1) (y := wi q) St.c (St.callM (i := 2) (F := u__law_take) (ds := []) (us := [.int 16]) (v1 := vS ns (some (wi k)) (some (PL a b)) x3 x4 x5 x6 x7) (o := PL a b) (u := wi q) (o1 := PL a1 b1) ⟨_, rfl⟩ (St.cons St.c St.nil) rfl tk) (Q.add 1 q))).trans rfl
  have s3 := l3 (some (.frz ns)) (some (wi k)) (some (PL a1 b1)) x4 x5 x6 x7 w h1 h2
  have s4 := l4 (some (.frz ns)) (some (wi k)) (some (PL a1 b1)) (some (fd w)) x5 x6 x7 w h1 h2
  have s5 := l5 (some (.frz ns)) (some (wi k)) (some (PL a1 b1)) x4 x5 x6 x7 w h1 h2
  have s6 := l6 (some (.frz ns)) (some (wi k)) (some (PL a1 b1)) x4 x5 x6 x7 w h1 h2
  generalize some (fd w) = y4 at s3 s4 s5 s6
  generalize some (wk w) = y5 at s4 s5 s6
  obtain ⟨a2, b2, q2, ha2, hb2, hq2, tk2⟩ := take_nat a1 b1 9 ha1 hb1 (by decide) (by decide)
  have p20 : gPow (.int 10) (.int 20) = some (.int 100000000000000000000) := rfl
  have s7 : la7 (vS ns (some (wi k)) (some (PL a1 b1)) (some (wi w)) y4 y5 x6 x7) = .nx (vS ns (some (wi k)) (some (PL a2 b2)) (some (wi w)) y4 y5 x6 x7) := by
    have ad : gAdd (.int 100000000000000000000) (.int (q2 : Int)) = some (.int (100000000000000000000 + (q2 : Int))) := rfl
    have cm := St.callM (i := 2) (F := u__law_take) (ds := []) (us := [.int 9]) (v := vS ns (some (wi k)) (some (PL a1 b1)) (some (wi w)) y4 y5 x6 x7) (v1 := vS ns (some (wi k)) (some (PL a1 b1)) (some (wi w)) y4 y5 x6 x7) (o := PL a1 b1) (u := wi q2) (o1 := PL a2 b2) ⟨_, rfl⟩ (St.cons St.c St.nil) rfl tk2
    have cl := St.call (F := u__law_result) (ds := []) (us := [.int 1, wi w, .int (100000000000000000000 + (q2 : Int))]) (St.cons (St.c (v := vS ns (some (wi k)) (some (PL a1 b1)) (some (wi w)) y4 y5 x6 x7)) (St.cons (St.varN (i := 3) (u := wi w) rfl rfl) (St.cons (St.bin (St.vb (St.bin St.c St.c p20) rfl) cm ad) St.nil))) (r7 w q2 h1 h2 hq2)
    exact (St.iff (St.tv (b := false) (St.bin cl St.c rfl))).trans rfl
  obtain ⟨a3, b3, q3, ha3, hb3, hq3, tk3⟩ := take_nat a2 b2 8 ha2 hb2 (by decide) (by decide)
  have s8 : la8 (vS ns (some (wi k)) (some (PL a2 b2)) (some (wi w)) y4 y5 x6 x7) = .nx (vS ns (some (wi k)) (some (PL a3 b3)) (some (wi w)) y4 y5 (some (frz (od1 q3))) x7) := by
    have cm := St.callM (i := 2) (F := u__law_take) (ds := []) (us := [.int 8]) (v := vS ns (some (wi k)) (some (PL a2 b2)) (some (wi w)) y4 y5 x6 x7) (v1 := vS ns (some (wi k)) (some (PL a2 b2)) (some (wi w)) y4 y5 x6 x7) (o := PL a2 b2) (u := wi q3) (o1 := PL a3 b3) ⟨_, rfl⟩ (St.cons St.c St.nil) rfl tk3
    have ls := St.lst (us := [.non, .int 0, .int 17, .bl true, .str "3", .tup [.int 3], .int (-1), .int 100000000000000000000]) (St.cons (St.c (v := vS ns (some (wi k)) (some (PL a2 b2)) (some (wi w)) y4 y5 x6 x7)) (St.cons St.c (St.cons St.c (St.cons St.c (St.cons St.c (St.cons (St.tup (us := [.int 3]) (St.cons St.c St.nil) (show 1 ≤ 1000000 by decide) rfl) (St.cons (St.un St.c rfl) (St.cons (St.bin St.c St.c p20) St.nil)))))))) (show 8 ≤ 1000000 by decide) rfl
    exact (St.asgF (i := 6) (u := od1 q3) (St.bin (St.vb ls rfl) cm (g1 q3 hq3))).trans rfl
  have s9 := l9 (some (.frz ns)) (some (wi k)) (some (PL a3 b3)) (some (wi w)) y4 y5 x7 q3 hq3
  generalize some (frz (od1 q3)) = z6 at s8 s9
  obtain ⟨a4, b4, q4, ha4, hb4, hq4, tk4⟩ := take_nat a3 b3 7 ha3 hb3 (by decide) (by decide)
  have s10 : la10 (vS ns (some (wi k)) (some (PL a3 b3)) (some (wi w)) y4 y5 z6 (some (.int 1))) = .nx (vS ns (some (wi k)) (some (PL a4 b4)) (some (wi w)) y4 y5 (some (frz (od2 q4))) (some (.int 1))) := by
    have cm := St.callM (i := 2) (F := u__law_take) (ds := []) (us := [.int 7]) (v := vS ns (some (wi k)) (some (PL a3 b3)) (some (wi w)) y4 y5 z6 (some (.int 1))) (v1 := vS ns (some (wi k)) (some (PL a3 b3)) (some (wi w)) y4 y5 z6 (some (.int 1))) (o := PL a3 b3) (u := wi q4) (o1 := PL a4 b4) ⟨_, rfl⟩ (St.cons St.c St.nil) rfl tk4
    have ls := St.lst (us := [.non, .int (-1), .bl true, .bl false, .str "0", .tup [.int 0], .lst .o [.int 2]]) (St.cons (St.c (v := vS ns (some (wi k)) (some (PL a3 b3)) (some (wi w)) y4 y5 z6 (some (.int 1)))) (St.cons (St.un St.c rfl) (St.cons St.c (St.cons St.c (St.cons St.c (St.cons (St.tup (us := [.int 0]) (St.cons St.c St.nil) (show 1 ≤ 1000000 by decide) rfl) (St.cons (St.lst (us := [.int 2]) (St.cons St.c St.nil) (show 1 ≤ 1000000 by decide) rfl) St.nil))))))) (show 7 ≤ 1000000 by decide) rfl
    exact (St.asgF (i := 6) (u := od2 q4) (St.bin (St.vb ls rfl) cm (g2 q4 hq4))).trans rfl
  have s11 := l11 (some (.frz ns)) (some (wi k)) (some (PL a4 b4)) y4 y5 (some (.int 1)) w q4 h1 h2 hq4
  generalize some (frz (od2 q4)) = t6 at s10 s11
  refine ⟨some (PL a4 b4), some (wi w), y4, y5, t6, some (.int 1), ?_⟩
  rw [la_eq]
  exact (St.nx s1).trans ((St.nx s2).trans ((St.nx s3).trans ((St.nx s4).trans ((St.nx s5).trans ((St.nx s6).trans ((St.nx s7).trans ((St.nx s8).trans ((St.nx s9).trans ((St.nx s10).trans s11)))))))))

theorem count_lo (lo N n : Nat) (h1 : lo ≤ N) : ∃ (m : Nat) (w : Int), m ≤ N ∧ fMin2 [.int (N : Int), .int (n : Int)] = some (.int w) ∧ fMax2 [.int (lo : Int), .int w] = some (.int (m : Int)) :=
  ⟨max lo (min N n), ((min N n : Nat) : Int), by omega, Q.min2 N n, Q.max2 lo (min N n)⟩
theorem loop_ok (ns : List Int) : ∀ (ks : List Nat), (∀ k ∈ ks, k < 64) → ∀ x1 x2 x3 x4 x5 x6 x7 : Option U, ∃ y1 y2 y3 y4 y5 y6 y7 : Option U, forL (gNf 1) v_law_b1 (ks.map wi) (vS ns x1 x2 x3 x4 x5 x6 x7) = .nx (vS ns y1 y2 y3 y4 y5 y6 y7)
  | [], _, x1, x2, x3, x4, x5, x6, x7 => ⟨x1, x2, x3, x4, x5, x6, x7, rfl⟩
  | k :: ks, h, x1, x2, x3, x4, x5, x6, x7 => by
    obtain ⟨z2, z3, z4, z5, z6, z7, e⟩ := la_ok (ns := ns) (x2 := x2) (x3 := x3) (x4 := x4) (x5 := x5) (x6 := x6) (x7 := x7) (h k (List.mem_cons_self ..))
    obtain ⟨y1, y2, y3, y4, y5, y6, y7, e'⟩ := loop_ok ns ks (fun k m => h k (List.mem_cons_of_mem _ m)) (some (wi k)) z2 z3 z4 z5 z6 z7
    refine ⟨y1, y2, y3, y4, y5, y6, y7, ?_⟩
    rw [List.map_cons, St.for_cons (v1 := vS ns (some (wi k)) x2 x3 x4 x5 x6 x7) rfl e]
    exact e'
theorem law_ok (ns : List Int) : ∃ o, u_law [.frz ns] = .ok (.bl true) o := by
  obtain ⟨m, w, hm, mn, mx⟩ := count_lo 1 8 ns.length (by decide)
  obtain ⟨y1, y2, y3, y4, y5, y6, y7, lp⟩ := loop_ok ns (List.range m) (fun k h => by have := List.mem_range.mp h; omega) none none none none none none none
  have s1 : sFor (gNf 1) (iRange1 (vB (eB fMax2 (aCons (eC (.int 1)) (aCons (eB fMin2 (aCons (eC (.int 8)) (aCons (eB fLen (aCons (eVarB 0) aNil)) aNil))) aNil))))) v_law_b1 (vS ns none none none none none none none) = .nx (vS ns y1 y2 y3 y4 y5 y6 y7) := by
    refine (St.sfor (St.rg1 (n := m) (St.vb (v1 := vS ns none none none none none none none) (St.eb (St.cons St.c (St.cons (St.eb (St.cons St.c (St.cons (St.eb1 (St.varB (i := 0) (u := .frz ns) rfl) rfl) St.nil)) mn) St.nil)) mx) rfl) (by omega))).trans ?_
    rw [rng_wi]
    exact lp
  refine ⟨.non, ?_⟩
  have rt : v_law (vS ns none none none none none none none) = .ret (.bl true) (vS ns y1 y2 y3 y4 y5 y6 y7) := by
    unfold v_law
    rw [St.nx s1]
    rfl
  exact St.fnV_ret rfl rfl rt
end K46.V
set_option Elab.async false
set_option maxRecDepth 100000
open PySem PySem.W PyProof.Rows in
set_option maxRecDepth 100000 in
set_option maxHeartbeats 0 in
theorem PySem.Challenge.cw_cupcap_k46_diagrams_counted_holds : PySem.Challenge.rw_cupcap_k46_diagrams_counted.Holds := by
  w_on; o_law; k_head; (case hw => w_witness2)
  k_fill
  refine CC.law_end (l := PySem.Challenge.rw_cupcap_k46_diagrams_counted) (k := K46.lvl) (x := "_law_script") (Fm := K46.m_law) rfl rfl ⟨rfl, by decide, by decide⟩ (fun w h Y => PySem.W.kIn_of Y) ?F (fun ns hn => K46.V.yes ns (K46.V.law_ok ns))
  case F =>
  intro w mg fa h KX NG hmg
  refine ⟨?nl, ?fl⟩
  (case nl => first | rfl | k_is)
  case fl =>
  refine' K46.all_mk KX NG hmg ?n_abs ?n_bool ?n_int ?n_isinstance ?n_len ?n_max ?n_min ?n_range ?n_repr ?n_sum ?c_MAX_COLUMNS ?C_0 ?C_1 ?C_2 ?a__law_catalan ?k__law_catalan ?a__law_half_count ?k__law_half_count ?a__law_pool ?k__law_pool ?a_is_integer ?k_is_integer ?a_is_columns ?k_is_columns ?a_check_columns ?k_check_columns ?a_binomial ?k_binomial ?a_count_pairings ?k_count_pairings ?a_count_diagrams ?k_count_diagrams ?a_count_with_through ?k_count_with_through ?a__law_result ?k__law_result ?a__law_take ?k__law_take ?a_law ?k_law ?o_1 ?i_1 ?t_1 ?x_1 ?nf_1 ?o_2 ?i_2 ?t_2 ?x_2 ?nf_2 ?r_0 ?q_0 ?ie_2 ?h_kt_2_1 ?h_kt_2_0 ?h_ex_2_2 ?h_ex_1_2 ?ie_1 ?h_kt_1_2 ?h_kt_1_0 ?h_ex_1_1 ?h_ex_2_1
  (case n_abs => k_is)
  (case n_bool => k_is)
  (case n_int => k_is)
  (case n_isinstance => k_is)
  (case n_len => k_is)
  (case n_max => k_is)
  (case n_min => k_is)
  (case n_range => k_is)
  (case n_repr => k_is)
  (case n_sum => k_is)
  (case c_MAX_COLUMNS => k_is)
  (case C_0 => k_is)
  (case C_1 => k_is)
  (case C_2 => k_is)
  (case a__law_catalan => k_is)
  (case k__law_catalan => (refine' CC.kd_mk ?l ?c ?k; (case l => k_is); (case c => k_is); (case k => k_is)))
  (case a__law_half_count => k_is)
  (case k__law_half_count => (refine' CC.kd_mk ?l ?c ?k; (case l => k_is); (case c => k_is); (case k => k_is)))
  (case a__law_pool => k_is)
  (case k__law_pool => (refine' CC.kd_mk ?l ?c ?k; (case l => k_is); (case c => k_is); (case k => k_is)))
  (case a_is_integer => k_is)
  (case k_is_integer => (refine' CC.kdd_mk ?l ?c ?k ?t ?r (by simp); (case l => k_is); (case c => k_is); (case k => k_is); (case t => k_is); (case r => exact .cons ⟨_, rfl⟩ (.nil))))
  (case a_is_columns => k_is)
  (case k_is_columns => (refine' CC.kd_mk ?l ?c ?k; (case l => k_is); (case c => k_is); (case k => k_is)))
  (case a_check_columns => k_is)
  (case k_check_columns => (refine' CC.kd_mk ?l ?c ?k; (case l => k_is); (case c => k_is); (case k => k_is)))
  (case a_binomial => k_is)
  (case k_binomial => (refine' CC.kd_mk ?l ?c ?k; (case l => k_is); (case c => k_is); (case k => k_is)))
  (case a_count_pairings => k_is)
  (case k_count_pairings => (refine' CC.kd_mk ?l ?c ?k; (case l => k_is); (case c => k_is); (case k => k_is)))
  (case a_count_diagrams => k_is)
  (case k_count_diagrams => (refine' CC.kd_mk ?l ?c ?k; (case l => k_is); (case c => k_is); (case k => k_is)))
  (case a_count_with_through => k_is)
  (case k_count_with_through => (refine' CC.kd_mk ?l ?c ?k; (case l => k_is); (case c => k_is); (case k => k_is)))
  (case a__law_result => k_is)
  (case k__law_result => (refine' CC.kd_mk ?l ?c ?k; (case l => k_is); (case c => k_is); (case k => k_is)))
  (case a__law_take => k_is)
  (case k__law_take => (refine' CC.kd_mk ?l ?c ?k; (case l => k_is); (case c => k_is); (case k => k_is)))
  (case a_law => k_is)
  (case k_law => (refine' CC.kd_mk ?l ?c ?k; (case l => k_is); (case c => k_is); (case k => k_is)))
  (case o_1 => (refine' CC.oex_mk ?l ?b ?sa ?ex ?ty ?kC; (case l => k_is); (case sa => k_is); (case ex => k_is); (case ty => k_is); (case kC => k_is); (case b => rfl)))
  (case i_1 => k_is)
  (case t_1 => k_is)
  (case x_1 => (refine' CC.kd_mk ?l ?c ?k; (case l => k_is); (case c => k_is); (case k => k_is)))
  (case nf_1 => k_is)
  (case o_2 => (refine' CC.oex_mk ?l ?b ?sa ?ex ?ty ?kC; (case l => k_is); (case sa => k_is); (case ex => k_is); (case ty => k_is); (case kC => k_is); (case b => rfl)))
  (case i_2 => k_is)
  (case t_2 => k_is)
  (case x_2 => (refine' CC.kd_mk ?l ?c ?k; (case l => k_is); (case c => k_is); (case k => k_is)))
  (case nf_2 => k_is)
  (case r_0 => (refine' ⟨?rd, ?ga⟩; (case rd => k_is); (case ga => k_is)))
  (case q_0 => k_is)
  (case ie_2 => (refine' CC.exi_mk ?ga ?gg ?ex ?hd ?ha ?hn ?ht ?hm; (case ga => k_is); (case gg => k_is); (case ex => k_is); (case hd => k_is); (case ha => k_is); (case hn => k_is); (case ht => k_is); (case hm => k_is)))
  (case h_kt_2_1 => kit_is)
  (case h_kt_2_0 => kit_is)
  (case h_ex_2_2 => kts_exm)
  (case h_ex_1_2 => kts_exm)
  (case ie_1 => (refine' CC.exi_mk ?ga ?gg ?ex ?hd ?ha ?hn ?ht ?hm; (case ga => k_is); (case gg => k_is); (case ex => k_is); (case hd => k_is); (case ha => k_is); (case hn => k_is); (case ht => k_is); (case hm => k_is)))
  (case h_kt_1_2 => kit_is)
  (case h_kt_1_0 => kit_is)
  (case h_ex_1_1 => kts_exm)
  (case h_ex_2_1 => kts_exm)
