import PyProof.Rows.All
import Wide.All
import OpenK.AllK
import Wide.FinOn
import HandS.ForMost
import HandS.ForExc
import HandS.ExcInit
import HandS.ExcField
import HandS.TryMany
import HandS.TryOnly
import HandS.CallSlots
import HandS.Defaults
import HandS.WordsExc
import HandS.TupAny
import HandS.TupMul
import HandS.TupLe
import HandS.Style
import HandS.Wide
import HandS.IsInst
import HandS.Deep
import HandS.Dict
import HandS.Conv
import HandS.Small
import HandS.Zip
import KE.GoesMore
import HandS.Ends
import HandS.EndBits
import HandS.Words
import HandS.OwnEq
import HandS.ExcIs
import HandS.ClsMeth
import PyProof.ExcBaseAll.OverflowError
import PyProof.ExcBaseAll.RuntimeError
import PyProof.ExcBaseAll.LookupError
import HandS.HotCalls
import KE.KExcIs
import HandS.SetFor
import HandS.NamedTupSort
import PyProof.InstEq
import HandS.SortInts
import HandS.SortRule
import KE.KDictDisplayH
import KE.KDictSum
import HandS.ExcValue
import HandS.More
import HandS.DictComp
import HandS.NoneIn
import PyProof.EqKinds
import PyProof.Rows.RuleB_bool
import PySem.Challenge.RW_cupcap_k35_halves_recognized
set_option Elab.async false
set_option linter.all false
set_option maxRecDepth 100000
namespace CC
open PySem PySem.Spec PyProof.Rows L2
inductive W where
  | non | bl (b : Bool) | int (i : Int) | str (s : Str) | tup (ws : List W) | ref (n : Nat)
inductive Ob where
  | lst (ws : List W) | frz (ns : List Int) | dct (kvs : List (Key × W)) | dtt (kvs : List (List Key × W)) | ins (c : Nat) (fs : List (Nat × W))
abbrev Hh := List Ob
abbrev Lo := List (Option W)
structure S where
  ov : List (Nat × Ob)
  loc : List Ob
inductive R (α : Type) where
  | ok (a : α) (s : S) | exc (c : Nat) (w : W) (s : S) | bad
inductive RS where
  | nx (l : Lo) (s : S) | ret (w : W) (s : S) | brk (l : Lo) (s : S) | ct (l : Lo) (s : S) | exc (c : Nat) (w : W) (l : Lo) (s : S) | bad
def lookN (n : Nat) : List (Nat × Ob) → Option Ob
  | [] => none
  | (m, o) :: r => if n = m then some o else lookN n r
def putN (n : Nat) (o : Ob) : List (Nat × Ob) → List (Nat × Ob)
  | [] => [(n, o)]
  | (m, u) :: r => if n = m then (m, o) :: r else (m, u) :: putN n o r
def rd (p : Hh) (s : S) (n : Nat) : Option Ob :=
  if n < p.length then (match lookN n s.ov with | some o => some o | none => p[n]?) else s.loc[n - p.length]?
def wr (p : Hh) (s : S) (n : Nat) (o : Ob) : S :=
  if n < p.length then ⟨putN n o s.ov, s.loc⟩ else ⟨s.ov, s.loc.set (n - p.length) o⟩
def al (s : S) (o : Ob) : S := ⟨s.ov, s.loc ++ [o]⟩
def nxt (p : Hh) (s : S) : Nat := p.length + s.loc.length
theorem lookN_put (n m : Nat) (o : Ob) : ∀ l, lookN m (putN n o l) = if m = n then some o else lookN m l := by
  intro l
  induction l with
  | nil => simp only [putN, lookN]
  | cons q r ih =>
    obtain ⟨k, u⟩ := q
    simp only [putN]
    by_cases h : n = k
    · subst h
      simp only [if_true, lookN]
      by_cases hm : m = n <;> simp [hm]
    · simp only [if_neg h, lookN, ih]
      by_cases hm : m = k
      · subst hm
        simp [Ne.symm h]
      · simp [hm]
theorem rd_al {p : Hh} {s : S} {o : Ob} {n : Nat} : rd p (al s o) n = if n = nxt p s then some o else rd p s n := by
  unfold rd al nxt
  by_cases h : n < p.length
  · have h2 : n ≠ p.length + s.loc.length := by omega
    simp only [h, if_true, h2, if_false]
  · simp only [h, if_false]
    by_cases h2 : n = p.length + s.loc.length
    · subst h2
      simp
    · simp only [h2, if_false]
      by_cases h3 : n - p.length < s.loc.length
      · rw [List.getElem?_append_left h3]
      · have h4 : s.loc.length < n - p.length := by omega
        rw [List.getElem?_append_right (by omega), List.getElem?_eq_none (by simp; omega), List.getElem?_eq_none (by omega)]
theorem rd_wr {p : Hh} {s : S} {o : Ob} {n m : Nat} (hn : n < nxt p s) : rd p (wr p s n o) m = if m = n then some o else rd p s m := by
  unfold nxt at hn
  unfold rd wr
  by_cases h : n < p.length
  · simp only [h, if_true]
    by_cases hm : m < p.length
    · simp only [hm, if_true, lookN_put]
      by_cases e : m = n <;> simp [e]
    · have : m ≠ n := by omega
      simp only [hm, if_false, this]
  · simp only [h, if_false]
    by_cases hm : m < p.length
    · have : m ≠ n := by omega
      simp only [hm, if_true, this, if_false]
    · simp only [hm, if_false]
      by_cases e : m = n
      · subst e
        rw [List.getElem?_set_self (by omega)]
        simp
      · rw [List.getElem?_set_ne (by omega)]
        simp [e]
theorem nxt_wr {p : Hh} {s : S} {o : Ob} {n : Nat} : nxt p (wr p s n o) = nxt p s := by
  unfold nxt wr
  split
  · rfl
  · simp
theorem nxt_al {p : Hh} {s : S} {o : Ob} : nxt p (al s o) = nxt p s + 1 := by
  unfold nxt al
  simp; omega
structure Ex (ρ : List Addr) (H : Hp) (ρ' : List Addr) (H' : Hp) : Prop where
  pre : ∃ l, ρ' = ρ ++ l
  new : ∀ a, a ∈ ρ' → a ∉ ρ → H a = none
  keep : ∀ a o, a ∉ ρ → H a = some o → H' a = some o
theorem Ex.rfl' {ρ : List Addr} {H : Hp} : Ex ρ H ρ H := ⟨⟨[], by simp⟩, fun _ h n => absurd h n, fun _ _ _ h => h⟩
theorem Ex.trans {ρ ρ1 ρ2 : List Addr} {H H1 H2 : Hp} (x : Ex ρ H ρ1 H1) (y : Ex ρ1 H1 ρ2 H2) : Ex ρ H ρ2 H2 := by
  have nin : ∀ a o, a ∉ ρ → H a = some o → a ∉ ρ1 := fun a o na h m => by
    rw [x.new a m na] at h; cases h
  refine ⟨?_, fun a h n => ?_, fun a o n h => y.keep a o (nin a o n h) (x.keep a o n h)⟩
  · obtain ⟨l, rfl⟩ := x.pre
    obtain ⟨l', rfl⟩ := y.pre
    exact ⟨l ++ l', by simp⟩
  · by_cases h1 : a ∈ ρ1
    · exact x.new a h1 n
    · have z := y.new a h h1
      cases e : H a with
      | none => rfl
      | some o => rw [x.keep a o n e] at z; cases z
theorem Ex.nin {ρ ρ1 : List Addr} {H H1 : Hp} (x : Ex ρ H ρ1 H1) {a : Addr} {o : HO} (n : a ∉ ρ) (h : H a = some o) : a ∉ ρ1 := fun m => by
  rw [x.new a m n] at h; cases h
theorem Ex.get {ρ ρ1 : List Addr} {H H1 : Hp} (x : Ex ρ H ρ1 H1) {n : Nat} {a : Addr} (h : ρ[n]? = some a) : ρ1[n]? = some a := by
  obtain ⟨l, rfl⟩ := x.pre
  rw [List.getElem?_append_left (List.getElem?_eq_some_iff.mp h).1]
  exact h
structure GE where
  cls : Nat → Addr
  fld : Nat → List Str
  /-- what else holds of the slots (in an except suite: of the exception; the slot that holds it is not written) -/
  J : List Addr → L2.St → Hp → Prop
  jm : ∀ {ρ ρ1 : List Addr} {H H1 : Hp} {σ : L2.St}, Ex ρ H ρ1 H1 → J ρ σ H → J ρ1 σ H1
  hold : Option Nat
  js : ∀ {ρ : List Addr} {H : Hp} {σ : L2.St} (i : Nat) (o : Option V), hold ≠ some i → J ρ σ H → J ρ (σ.set i o) H
def GE.of (cls : Nat → Addr) (fld : Nat → List Str) : GE := ⟨cls, fld, fun _ _ _ => True, fun _ _ => True.intro, none, fun _ _ _ _ => True.intro⟩
mutual
inductive RV (G : GE) (ρ : List Addr) (H : Hp) : W → V → Prop
  | non : RV G ρ H .non .non
  | bl (b : Bool) : RV G ρ H (.bl b) (.bl b)
  | int (i : Int) : RV G ρ H (.int i) (.int i)
  | str (z : Str) : RV G ρ H (.str z) (.str z)
  | ref {n : Nat} {a : Addr} (h : ρ[n]? = some a) : RV G ρ H (.ref n) (.ref a)
  | tup {a : Addr} {ws : List W} {vs : List V} (na : a ∉ ρ) (h : H a = some (.tup vs)) (r : RVs G ρ H ws vs) : RV G ρ H (.tup ws) (.ref a)
inductive RVs (G : GE) (ρ : List Addr) (H : Hp) : List W → List V → Prop
  | nil : RVs G ρ H [] []
  | cons {w : W} {v : V} {ws : List W} {vs : List V} (h : RV G ρ H w v) (r : RVs G ρ H ws vs) : RVs G ρ H (w :: ws) (v :: vs)
end
mutual
theorem RV.mono {G : GE} {ρ ρ1 : List Addr} {H H1 : Hp} (x : Ex ρ H ρ1 H1) : ∀ {w : W} {v : V}, RV G ρ H w v → RV G ρ1 H1 w v
  | _, _, .non => .non
  | _, _, .bl b => .bl b
  | _, _, .int i => .int i
  | _, _, .str z => .str z
  | _, _, .ref h => .ref (x.get h)
  | _, _, .tup na h r => .tup (x.nin na h) (x.keep _ _ na h) (RVs.mono x r)
theorem RVs.mono {G : GE} {ρ ρ1 : List Addr} {H H1 : Hp} (x : Ex ρ H ρ1 H1) : ∀ {ws : List W} {vs : List V}, RVs G ρ H ws vs → RVs G ρ1 H1 ws vs
  | _, _, .nil => .nil
  | _, _, .cons h r => .cons (RV.mono x h) (RVs.mono x r)
end
section
variable {G : GE} {ρ : List Addr} {H : Hp}
theorem RVs.len : ∀ {ws : List W} {vs : List V}, RVs G ρ H ws vs → ws.length = vs.length
  | _, _, .nil => rfl
  | _, _, .cons _ r => by simp [RVs.len r]
theorem RVs.get : ∀ {ws : List W} {vs : List V} {i : Nat} {w : W}, RVs G ρ H ws vs → ws[i]? = some w → ∃ v, vs[i]? = some v ∧ RV G ρ H w v
  | _, _, _, _, .nil, e => by simp at e
  | _, _, 0, _, .cons h _, e => by simp at e; subst e; exact ⟨_, rfl, h⟩
  | _, _, i + 1, _, .cons _ r, e => by
    obtain ⟨v, h1, h2⟩ := RVs.get (i := i) r (by simpa using e)
    exact ⟨v, by simpa using h1, h2⟩
theorem RVs.app : ∀ {ws ws' : List W} {vs vs' : List V}, RVs G ρ H ws vs → RVs G ρ H ws' vs' → RVs G ρ H (ws ++ ws') (vs ++ vs')
  | _, _, _, _, .nil, s => s
  | _, _, _, _, .cons h r, s => .cons h (RVs.app r s)
theorem RVs.take : ∀ {ws : List W} {vs : List V} (n : Nat), RVs G ρ H ws vs → RVs G ρ H (ws.take n) (vs.take n)
  | _, _, 0, _ => by simp; exact .nil
  | _, _, _ + 1, .nil => .nil
  | _, _, n + 1, .cons h r => .cons h (RVs.take n r)
theorem RVs.drop : ∀ {ws : List W} {vs : List V} (n : Nat), RVs G ρ H ws vs → RVs G ρ H (ws.drop n) (vs.drop n)
  | _, _, 0, r => by simpa using r
  | _, _, _ + 1, .nil => .nil
  | _, _, n + 1, .cons _ r => RVs.drop n r
theorem RVs.set : ∀ {ws : List W} {vs : List V} (i : Nat) {w : W} {v : V}, RV G ρ H w v → RVs G ρ H ws vs → RVs G ρ H (ws.set i w) (vs.set i v)
  | _, _, _, _, _, _, .nil => .nil
  | _, _, 0, _, _, q, .cons _ r => .cons q r
  | _, _, i + 1, _, _, q, .cons h r => .cons h (RVs.set i q r)
end
inductive RO (G : GE) (ρ : List Addr) (H : Hp) : Ob → HO → Prop
  | lst {ws : List W} {vs : List V} (r : RVs G ρ H ws vs) : RO G ρ H (.lst ws) (.lst vs)
  | frz {ns : List Int} {o : Obj} : RO G ρ H (.frz ns) (.frz o (.lst (ns.map V.int)))
  | dK {kvs : List (Key × W)} {ks : List (Key × V)} (r : kvs.map (·.1) = ks.map (·.1)) (r2 : RVs G ρ H (kvs.map (·.2)) (ks.map (·.2))) : RO G ρ H (.dct kvs) (.dK ks)
  | dT {kvs : List (List Key × W)} {ks : List (List Key × V)} (r : kvs.map (·.1) = ks.map (·.1)) (r2 : RVs G ρ H (kvs.map (·.2)) (ks.map (·.2))) : RO G ρ H (.dtt kvs) (.dT ks)
  | ins {c : Nat} {fs : List (Nat × W)} {gs : List (Str × V)} {dx : Addr} (k : fs.map (fun p => (G.fld c)[p.1]?) = gs.map (fun p => some p.1)) (r : RVs G ρ H (fs.map (·.2)) (gs.map (·.2))) : RO G ρ H (.ins c fs) (.ins (G.cls c) dx gs)
theorem RO.mono {G : GE} {ρ ρ1 : List Addr} {H H1 : Hp} (x : Ex ρ H ρ1 H1) {o : Ob} {u : HO} (r : RO G ρ H o u) : RO G ρ1 H1 o u := by
  cases r with
  | lst r => exact .lst (r.mono x)
  | frz => exact .frz
  | dK r r2 => exact .dK r (r2.mono x)
  | dT r r2 => exact .dT r (r2.mono x)
  | ins k r => exact .ins k (r.mono x)
structure Rep (G : GE) (ρ : List Addr) (p : Hh) (s : S) (H : Hp) : Prop where
  len : ρ.length = nxt p s
  nd : ρ.Nodup
  has : ∀ n o, rd p s n = some o → ∃ a u, ρ[n]? = some a ∧ H a = some u ∧ RO G ρ H o u
section
variable {G : GE} {ρ : List Addr} {H : Hp} {p : Hh} {s : S}
theorem Rep.at {n : Nat} {o : Ob} {a : Addr} (r : Rep G ρ p s H) (h : rd p s n = some o) (e : ρ[n]? = some a) : ∃ u, H a = some u ∧ RO G ρ H o u := by
  obtain ⟨b, u, e', q⟩ := r.has n o h
  rw [e] at e'; cases e'
  exact ⟨u, q⟩
theorem nodup_get {ρ : List Addr} (nd : ρ.Nodup) {n m : Nat} {a : Addr} (h : ρ[n]? = some a) (h' : ρ[m]? = some a) : n = m := by
  obtain ⟨h1, e1⟩ := List.getElem?_eq_some_iff.mp h
  obtain ⟨h2, e2⟩ := List.getElem?_eq_some_iff.mp h'
  exact (List.getElem_inj nd).mp (e1.trans e2.symm)
theorem Rep.alloc {q : Addr} {o : Ob} {u : HO} (r : Rep G ρ p s H) (hq : H q = none) (nq : ∀ n, ρ[n]? = some q → rd p s n ≠ none) (hu : RO G (ρ ++ [q]) (upd H q u) o u) : Ex ρ H (ρ ++ [q]) (upd H q u) ∧ Rep G (ρ ++ [q]) p (al s o) (upd H q u) ∧ RV G (ρ ++ [q]) (upd H q u) (.ref (nxt p s)) (.ref q) := by
  have nin : q ∉ ρ := fun m => by
    obtain ⟨n, h1, e⟩ := List.getElem_of_mem m
    have e' : ρ[n]? = some q := by rw [List.getElem?_eq_getElem h1, e]
    have z := nq n e'
    cases h : rd p s n with
    | none => exact z h
    | some o =>
      obtain ⟨a, u, e2, e3, _⟩ := r.has n o h
      rw [e'] at e2; cases e2
      rw [hq] at e3; cases e3
  have x : Ex ρ H (ρ ++ [q]) (upd H q u) := ⟨⟨[q], rfl⟩, fun a h n => by
    rcases List.mem_append.mp h with h | h
    · exact absurd h n
    · rw [List.mem_singleton.mp h]; exact hq, fun a o n h => by
    rw [upd_ne (fun e => by rw [e, hq] at h; cases h)]; exact h⟩
  refine ⟨x, ⟨by rw [List.length_append, r.len, nxt_al]; rfl, ?_, fun n o' h => ?_⟩, .ref (by rw [List.getElem?_append_right (by rw [r.len]; exact Nat.le_refl _), r.len]; simp)⟩
  · refine List.nodup_append.mpr ⟨r.nd, by simp, fun a ha b hb => ?_⟩
    rw [List.mem_singleton.mp hb]
    exact fun e => nin (e ▸ ha)
  · rw [rd_al] at h
    by_cases e : n = nxt p s
    · rw [if_pos e] at h
      cases h
      refine ⟨q, u, ?_, upd_same, hu⟩
      rw [List.getElem?_append_right (by rw [r.len, e]; exact Nat.le_refl _), r.len, e]
      simp
    · rw [if_neg e] at h
      obtain ⟨a, u', e1, e2, e3⟩ := r.has n o' h
      refine ⟨a, u', x.get e1, ?_, e3.mono x⟩
      rw [upd_ne (fun z => by rw [z, hq] at e2; cases e2)]
      exact e2
def Full (p : Hh) (s : S) : Prop := ∀ n, n < nxt p s → rd p s n ≠ none
theorem rd_full : Full p s := fun n hn => by
  unfold nxt at hn
  unfold rd
  by_cases h : n < p.length
  · rw [if_pos h]
    cases lookN n s.ov with
    | some o => intro z; cases z
    | none =>
      show p[n]? ≠ none
      rw [List.getElem?_eq_getElem h]
      intro z; cases z
  · rw [if_neg h, List.getElem?_eq_getElem (show n - p.length < s.loc.length by omega)]
    intro z; cases z
theorem Rep.al_ {q : Addr} {o : Ob} {u : HO} (r : Rep G ρ p s H) (hq : H q = none) (hu : RO G (ρ ++ [q]) (upd H q u) o u) : Ex ρ H (ρ ++ [q]) (upd H q u) ∧ Rep G (ρ ++ [q]) p (al s o) (upd H q u) ∧ RV G (ρ ++ [q]) (upd H q u) (.ref (nxt p s)) (.ref q) :=
  r.alloc hq (fun n e => rd_full n (by rw [← r.len]; exact (List.getElem?_eq_some_iff.mp e).1)) hu
theorem Rep.ref_none {q : Addr} (r : Rep G ρ p s H) (hq : H q = none) : q ∉ ρ := fun m => by
  obtain ⟨n, h1, e⟩ := List.getElem_of_mem m
  have e' : ρ[n]? = some q := by rw [List.getElem?_eq_getElem h1, e]
  cases h : rd p s n with
  | none => exact rd_full n (by rw [← r.len]; exact h1) h
  | some o =>
    obtain ⟨a, u, e2, e3, _⟩ := r.has n o h
    rw [e'] at e2; cases e2
    rw [hq] at e3; cases e3
theorem Ex.al {q : Addr} {u : HO} (r : Rep G ρ p s H) (hq : H q = none) : Ex ρ H (ρ ++ [q]) (upd H q u) := ⟨⟨[q], rfl⟩, fun a h n => by
  rcases List.mem_append.mp h with h | h
  · exact absurd h n
  · rw [List.mem_singleton.mp h]; exact hq, fun a o n h => by
  have nb : a ≠ q := fun e => by rw [e, hq] at h; cases h
  rw [upd_ne nb]; exact h⟩
theorem Ex.fresh {q : Addr} {u : HO} (r : Rep G ρ p s H) (hq : H q = none) : Ex ρ H ρ (upd H q u) :=
  ⟨⟨[], by simp⟩, fun _ h n => absurd h n, fun a o n h => by rw [upd_ne (fun e => by rw [e, hq] at h; cases h)]; exact h⟩
theorem Rep.mono {H1 : Hp} (r : Rep G ρ p s H) (x : Ex ρ H ρ H1) (k : ∀ a, a ∈ ρ → H1 a = H a) : Rep G ρ p s H1 :=
  ⟨r.len, r.nd, fun n o h => by
    obtain ⟨a, u, e1, e2, e3⟩ := r.has n o h
    exact ⟨a, u, e1, by rw [k a (List.mem_of_getElem? e1)]; exact e2, e3.mono x⟩⟩
theorem Rep.fresh {q : Addr} {u : HO} (r : Rep G ρ p s H) (hq : H q = none) : Rep G ρ p s (upd H q u) :=
  r.mono (Ex.fresh r hq) fun a ha => upd_ne (fun e => r.ref_none hq (e ▸ ha))
theorem Rep.wr_ {n : Nat} {a : Addr} {o : Ob} {u : HO} (r : Rep G ρ p s H) (e : ρ[n]? = some a) (hu : RO G ρ (upd H a u) o u) : Ex ρ H ρ (upd H a u) ∧ Rep G ρ p (wr p s n o) (upd H a u) := by
  have ma : a ∈ ρ := List.mem_of_getElem? e
  have x : Ex ρ H ρ (upd H a u) := ⟨⟨[], by simp⟩, fun _ h n => absurd h n, fun b o n h => by
    have nb : b ≠ a := fun z => n (by rw [z]; exact ma)
    rw [upd_ne nb]; exact h⟩
  have hn : n < nxt p s := by rw [← r.len]; exact (List.getElem?_eq_some_iff.mp e).1
  refine ⟨x, ⟨by rw [nxt_wr]; exact r.len, r.nd, fun m o' h => ?_⟩⟩
  rw [rd_wr hn] at h
  by_cases em : m = n
  · rw [if_pos em] at h
    cases h
    exact ⟨a, u, by rw [em]; exact e, upd_same, hu⟩
  · rw [if_neg em] at h
    obtain ⟨b, u', e1, e2, e3⟩ := r.has m o' h
    have nb : b ≠ a := fun z => em (nodup_get r.nd e1 (by rw [z]; exact e))
    exact ⟨b, u', e1, by rw [upd_ne nb]; exact e2, e3.mono x⟩
end
structure RL (G : GE) (ρ : List Addr) (H : Hp) (l : Lo) (σ : L2.St) : Prop where
  len : l.length = σ.length
  has : ∀ (i : Nat) (w : W), l[i]? = some (some w) → ∃ v, σ[i]? = some (some v) ∧ RV G ρ H w v
  inv : G.J ρ σ H
section
variable {G : GE} {ρ ρ1 : List Addr} {H H1 : Hp} {l : Lo} {σ : L2.St}
theorem RL.mono (r : RL G ρ H l σ) (x : Ex ρ H ρ1 H1) : RL G ρ1 H1 l σ := ⟨r.len, fun i w e => by
  obtain ⟨v, h1, h2⟩ := r.has i w e
  exact ⟨v, h1, h2.mono x⟩, G.jm x r.inv⟩
theorem RL.set {w : W} {v : V} (r : RL G ρ H l σ) (i : Nat) (h : RV G ρ H w v) (hh : G.hold ≠ some i) : RL G ρ H (l.set i (some w)) (σ.set i (some v)) := ⟨by simp [r.len], fun j w' e => by
  by_cases hj : i = j
  · subst hj
    by_cases hi : i < l.length
    · rw [List.getElem?_set_self hi] at e
      cases e
      exact ⟨v, List.getElem?_set_self (by rw [← r.len]; exact hi), h⟩
    · rw [List.getElem?_eq_none (by simpa using hi)] at e
      cases e
  · rw [List.getElem?_set_ne hj] at e
    obtain ⟨v', h1, h2⟩ := r.has j w' e
    exact ⟨v', by rw [List.getElem?_set_ne hj]; exact h1, h2⟩, G.js i _ hh r.inv⟩
theorem RL.delσ (r : RL G ρ H l σ) (i : Nat) (hh : G.hold ≠ some i) : RL G ρ H (l.set i none) (σ.set i none) := ⟨by simp [r.len], fun j w' e => by
  by_cases hj : i = j
  · subst hj
    by_cases hi : i < l.length
    · rw [List.getElem?_set_self hi] at e; cases e
    · rw [List.getElem?_eq_none (by simpa using hi)] at e; cases e
  · rw [List.getElem?_set_ne hj] at e
    obtain ⟨v', h1, h2⟩ := r.has j w' e
    exact ⟨v', by rw [List.getElem?_set_ne hj]; exact h1, h2⟩, G.js i _ hh r.inv⟩
end
def RX (G : GE) (ρ : List Addr) (H : Hp) (c : Nat) (w : W) (d : Option Addr) : Prop :=
  match (G.fld c).head? with
  | none => True
  | some f => ∃ dd v, d = some dd ∧ dd ∉ ρ ∧ H dd = some (.xd [(f, v)]) ∧ RV G ρ H w v
theorem RX.mono {G : GE} {ρ ρ1 : List Addr} {H H1 : Hp} {c : Nat} {w : W} {d : Option Addr} (x : Ex ρ H ρ1 H1) (r : RX G ρ H c w d) : RX G ρ1 H1 c w d := by
  unfold RX at *
  split
  · trivial
  · rename_i f hf
    rw [hf] at r
    obtain ⟨dd, v, e1, n, e2, q⟩ := r
    exact ⟨dd, v, e1, x.nin n e2, x.keep _ _ n e2, q.mono x⟩
section
variable (G : GE) (p : Hh) (ρ : List Addr) (H : Hp)
def PoA {α β : Type} (rel : List Addr → Hp → α → β → Prop) (r : R α) (Q : β → Hp → Prop) (E : XK) : Prop :=
  match r with
  | .ok w s' => ∀ ρ' H' v, Ex ρ H ρ' H' → Rep G ρ' p s' H' → rel ρ' H' w v → Q v H'
  | .exc c w s' => ∀ ρ' H' d, Ex ρ H ρ' H' → Rep G ρ' p s' H' → RX G ρ' H' c w d → E (.ref (G.cls c)) d H'
  | .bad => False
def PoV (r : R W) (Q : VK) (E : XK) : Prop := PoA G p ρ H (RV G) r Q E
def PoVs (r : R (List W)) (Q : List V → Hp → Prop) (E : XK) : Prop := PoA G p ρ H (RVs G) r Q E
def PoB (r : R Bool) (Q : Bool → Hp → Prop) (E : XK) : Prop := PoA G p ρ H (fun _ _ b c => b = c) r Q E
def PoS (r : RS) (D : Ends) (E : WX) : Prop :=
  match r with
  | .nx l s' => ∀ ρ' H' σ', Ex ρ H ρ' H' → Rep G ρ' p s' H' → RL G ρ' H' l σ' → D.nx σ' H'
  | .brk l s' => ∀ ρ' H' σ', Ex ρ H ρ' H' → Rep G ρ' p s' H' → RL G ρ' H' l σ' → D.bk σ' H'
  | .ct l s' => ∀ ρ' H' σ', Ex ρ H ρ' H' → Rep G ρ' p s' H' → RL G ρ' H' l σ' → D.ct σ' H'
  | .ret w s' => ∀ ρ' H' v, Ex ρ H ρ' H' → Rep G ρ' p s' H' → RV G ρ' H' w v → D.rt v H'
  | .exc c w l s' => ∀ ρ' H' d σ', Ex ρ H ρ' H' → Rep G ρ' p s' H' → RX G ρ' H' c w d → RL G ρ' H' l σ' → E (.ref (G.cls c)) d σ' H'
  | .bad => False
end
section
variable {G : GE} {p : Hh} {ρ ρ1 : List Addr} {H H1 : Hp}
theorem PoA.base {α β : Type} {rel : List Addr → Hp → α → β → Prop} {r : R α} {Q : β → Hp → Prop} {E : XK} (h : PoA G p ρ H rel r Q E) (x : Ex ρ H ρ1 H1) : PoA G p ρ1 H1 rel r Q E := by
  cases r with
  | ok w s' => exact fun ρ' H' v y => h ρ' H' v (x.trans y)
  | exc c w s' => exact fun ρ' H' d y => h ρ' H' d (x.trans y)
  | bad => exact h
theorem PoS.base {r : RS} {D : Ends} {E : WX} (h : PoS G p ρ H r D E) (x : Ex ρ H ρ1 H1) : PoS G p ρ1 H1 r D E := by
  cases r with
  | nx l s' => exact fun ρ' H' v y => h ρ' H' v (x.trans y)
  | brk l s' => exact fun ρ' H' v y => h ρ' H' v (x.trans y)
  | ct l s' => exact fun ρ' H' v y => h ρ' H' v (x.trans y)
  | ret l s' => exact fun ρ' H' v y => h ρ' H' v (x.trans y)
  | exc c w l s' => exact fun ρ' H' d σ' y => h ρ' H' d σ' (x.trans y)
  | bad => exact h
theorem PoA.imp {α β : Type} {rel : List Addr → Hp → α → β → Prop} {r : R α} {Q Q' : β → Hp → Prop} {E E' : XK} (h : PoA G p ρ H rel r Q E) (hq : ∀ v H, Q v H → Q' v H) (he : ∀ c d H, E c d H → E' c d H) : PoA G p ρ H rel r Q' E' := by
  cases r with
  | ok w s' => exact fun ρ' H' v y a b => hq _ _ (h ρ' H' v y a b)
  | exc c w s' => exact fun ρ' H' d y a b => he _ _ _ (h ρ' H' d y a b)
  | bad => exact h
end
def R.bind {α β : Type} (r : R α) (k : α → S → R β) : R β :=
  match r with
  | .ok a s => k a s
  | .exc c w s => .exc c w s
  | .bad => .bad
theorem PoA.bind {G : GE} {p : Hh} {ρ : List Addr} {H : Hp} {α β α' β' : Type} {rel : List Addr → Hp → α → β → Prop} {rel' : List Addr → Hp → α' → β' → Prop} {r : R α} {k : α → S → R α'} {Q : β → Hp → Prop} {Q' : β' → Hp → Prop} {E : XK}
    (h : PoA G p ρ H rel' (r.bind k) Q' E) (hk : ∀ a s' ρ' H' v, Ex ρ H ρ' H' → Rep G ρ' p s' H' → rel ρ' H' a v → PoA G p ρ' H' rel' (k a s') Q' E → Q v H') : PoA G p ρ H rel r Q E := by
  cases r with
  | ok a s => exact fun ρ' H' v x y z => hk a s ρ' H' v x y z (PoA.base h x)
  | exc c w s => exact h
  | bad => exact h
end CC
set_option Elab.async false
set_option linter.all false
set_option maxRecDepth 100000
namespace CC
open PySem PySem.Spec PyProof.Rows L2
def mat (p : Hh) (s : S) : Hh := (List.range (nxt p s)).map fun n => (rd p s n).getD (.lst [])
def setAll (p full : Hh) : S := ⟨(List.range p.length).map fun n => (n, full.getD n (.lst [])), full.drop p.length⟩
theorem mat_len {p : Hh} {s : S} : (mat p s).length = nxt p s := by simp [mat]
theorem rd_lt {p : Hh} {s : S} {m : Nat} {o : Ob} (h : rd p s m = some o) : m < nxt p s := by
  unfold rd at h
  unfold nxt
  by_cases e : m < p.length
  · omega
  · rw [if_neg e] at h
    have := (List.getElem?_eq_some_iff.mp h).1
    omega
theorem rd_some {p : Hh} {s : S} {m : Nat} (h : m < nxt p s) : ∃ o, rd p s m = some o := by
  cases e : rd p s m with
  | none => exact absurd e (rd_full m h)
  | some o => exact ⟨o, rfl⟩
theorem rd_none {p : Hh} {s : S} {m : Nat} (h : ¬ m < nxt p s) : rd p s m = none := by
  cases e : rd p s m with
  | none => rfl
  | some o => exact absurd (rd_lt e) h
theorem mat_get {p : Hh} {s : S} {n : Nat} : (mat p s)[n]? = rd p s n := by
  by_cases h : n < nxt p s
  · obtain ⟨o, ho⟩ := rd_some h
    rw [ho]
    unfold mat
    rw [List.getElem?_map, List.getElem?_range h]
    simp [ho]
  · rw [rd_none h, List.getElem?_eq_none (by rw [mat_len]; omega)]
theorem rd_mat {p : Hh} {s : S} {n : Nat} : rd (mat p s) ⟨[], []⟩ n = rd p s n := by
  unfold rd
  by_cases h : n < (mat p s).length
  · rw [if_pos h]
    show (mat p s)[n]? = _
    rw [mat_get]; rfl
  · rw [if_neg h]
    rw [mat_len] at h
    have := rd_none h
    unfold rd at this
    rw [this]
    simp
theorem lookN_rng {f : Nat → Ob} {n : Nat} : ∀ {k i : Nat}, lookN n ((List.range' i k).map fun m => (m, f m)) = if i ≤ n ∧ n < i + k then some (f n) else none
  | 0, i => by
    rw [if_neg (by omega)]; rfl
  | k + 1, i => by
    rw [List.range'_succ]
    simp only [List.map_cons, lookN]
    by_cases e : n = i
    · subst e
      rw [if_pos rfl, if_pos (by omega)]
    · rw [if_neg e, lookN_rng]
      by_cases h : i + 1 ≤ n ∧ n < i + 1 + k
      · rw [if_pos h, if_pos (by omega)]
      · rw [if_neg h, if_neg (by omega)]
theorem nxt_setAll {p full : Hh} (h : p.length ≤ full.length) : nxt p (setAll p full) = full.length := by
  unfold nxt setAll
  simp; omega
theorem rd_setAll {p full : Hh} (h : p.length ≤ full.length) {n : Nat} : rd p (setAll p full) n = full[n]? := by
  unfold rd setAll
  dsimp only
  by_cases e : n < p.length
  · rw [if_pos e, List.range_eq_range', lookN_rng, if_pos (by omega)]
    dsimp only
    rw [List.getElem?_eq_getElem (by omega)]
    simp [List.getD, List.getElem?_eq_getElem (show n < full.length by omega)]
  · rw [if_neg e, List.getElem?_drop]
    congr 1
    omega
def mrg (p : Hh) (s s' : S) : S := setAll p (mat (mat p s) s')
theorem le_mrg {p : Hh} {s s' : S} : p.length ≤ (mat (mat p s) s').length := by
  rw [mat_len]
  unfold nxt
  rw [mat_len]
  unfold nxt
  omega
theorem nxt_mrg {p : Hh} {s s' : S} : nxt p (mrg p s s') = nxt (mat p s) s' := by
  unfold mrg
  rw [nxt_setAll le_mrg, mat_len]
theorem rd_mrg {p : Hh} {s s' : S} {n : Nat} : rd p (mrg p s s') n = rd (mat p s) s' n := by
  unfold mrg
  rw [rd_setAll le_mrg, mat_get]
def callF (F : Hh → List W → R W) (p : Hh) (xs : List W) (s : S) : R W := match F (mat p s) xs with
  | .ok w s' => .ok w (mrg p s s')
  | .exc c w s' => .exc c w (mrg p s s')
  | .bad => .bad
end CC
set_option Elab.async false
set_option linter.all false
set_option maxRecDepth 100000
namespace CC
open PySem PySem.Spec PyProof.Rows L2
abbrev O2 := Option (W × S)
def R.ofO : O2 → R W
  | some (w, s) => .ok w s
  | none => .bad
def PoO (G : GE) (p : Hh) (ρ : List Addr) (H : Hp) (r : O2) (Q : VK) : Prop :=
  match r with
  | some (w, s') => ∀ ρ' H' v, Ex ρ H ρ' H' → Rep G ρ' p s' H' → RV G ρ' H' w v → Q v H'
  | none => False
theorem po_of {G : GE} {p : Hh} {ρ : List Addr} {H : Hp} {r : O2} {Q : VK} {E : XK} (h : PoV G p ρ H (R.ofO r) Q E) : PoO G p ρ H r Q := by
  cases r with
  | none => exact h
  | some q => obtain ⟨w, s⟩ := q; exact h
theorem po_v {G : GE} {p : Hh} {ρ : List Addr} {H : Hp} {s : S} {w : W} {v : V} {Q : VK} (h : PoO G p ρ H (some (w, s)) Q) (r : Rep G ρ p s H) (q : RV G ρ H w v) : Q v H := h ρ H v Ex.rfl' r q
section
variable (G : GE) (p : Hh) (E : WX)
def tI (m : Lo → S → R W) : TE := fun σ H Q => ∃ ρ l s, RL G ρ H l σ ∧ Rep G ρ p s H ∧ PoV G p ρ H (m l s) Q (fun c d H' => E c d σ H')
def tT (m : Lo → S → R Bool) : TT := fun σ H Q => ∃ ρ l s, RL G ρ H l σ ∧ Rep G ρ p s H ∧ PoB G p ρ H (m l s) Q (fun c d H' => E c d σ H')
def tA (m : Lo → S → R (List W)) : TA := fun σ H Q => ∃ ρ l s, RL G ρ H l σ ∧ Rep G ρ p s H ∧ PoVs G p ρ H (m l s) Q (fun c d H' => E c d σ H')
def tS (m : Lo → S → RS) : TS := fun D σ H => ∃ ρ l s, RL G ρ H l σ ∧ Rep G ρ p s H ∧ PoS G p ρ H (m l s) D E
def PoG (ρ : List Addr) (H : Hp) (r : Option (Lo × S)) (Q : L2.St → Hp → Prop) : Prop := match r with
  | some (l, s') => ∀ ρ' H' σ', Ex ρ H ρ' H' → Rep G ρ' p s' H' → RL G ρ' H' l σ' → Q σ' H'
  | none => False
def tG (m : W → Lo → S → Option (Lo × S)) : TG := fun v σ H Q => ∃ ρ l s w, RL G ρ H l σ ∧ Rep G ρ p s H ∧ RV G ρ H w v ∧ PoG G p ρ H (m w l s) Q
def tGs (m : List W → Lo → S → Option (Lo × S)) : TGs := fun vs σ H Q => ∃ ρ l s ws, RL G ρ H l σ ∧ Rep G ρ p s H ∧ RVs G ρ H ws vs ∧ PoG G p ρ H (m ws l s) Q
variable (X : Cx)
def SE (e : Expr) (m : Lo → S → R W) : Prop := PE X e (tI G p E m)
def ST (e : Expr) (m : Lo → S → R Bool) : Prop := PT X e (tT G p E m)
def SW (e : Expr) (m : Lo → S → R Bool) : Prop := PW X e (tT G p E m)
def SA (es : List Expr) (m : Lo → S → R (List W)) : Prop := PA X es (tA G p E m)
def SS (st : Stmt) (m : Lo → S → RS) : Prop := PS X st (tS G p E m)
def SB (st : List Stmt) (m : Lo → S → RS) : Prop := PSs X st (tS G p E m)
def SG (tg : Expr) (m : W → Lo → S → Option (Lo × S)) : Prop := PG X tg (tG G p m)
def SGs (tgs : List Expr) (m : List W → Lo → S → Option (Lo × S)) : Prop := PGs X tgs (tGs G p m)
end
structure Cn (X : Cx) (E : WX) (k : Nat) : Prop where
  calm : X.calm = true
  room : Room k X.A
  tk : Takes X E
  own : PassesOwn (model X.prog X.w) X.A X.env X.xe
  nd : X.N.Nodup
  gd : X.A.guards = some []
section
variable {X : Cx}
theorem PE_imp {e : Expr} {t t' : TE} (h : PE X e t) (i : ∀ σ H Q, t' σ H Q → t σ H Q) : PE X e t' := ⟨fun pins s σ H Q I w => h.run pins s σ H Q I (i σ H Q w)⟩
theorem PT_imp {e : Expr} {t t' : TT} (h : PT X e t) (i : ∀ σ H Q, t' σ H Q → t σ H Q) : PT X e t' := ⟨fun pins s σ H Q I w => h.run pins s σ H Q I (i σ H Q w)⟩
theorem PW_imp {e : Expr} {t t' : TT} (h : PW X e t) (i : ∀ σ H Q, t' σ H Q → t σ H Q) : PW X e t' := ⟨fun wh pins s σ H Q I w => h.run wh pins s σ H Q I (i σ H Q w)⟩
theorem PA_imp {es : List Expr} {t t' : TA} (h : PA X es t) (i : ∀ σ H Q, t' σ H Q → t σ H Q) : PA X es t' := ⟨fun pos pins s σ H Q I w => h.run pos pins s σ H Q I (i σ H Q w)⟩
theorem PS_imp {e : Stmt} {t t' : TS} (h : PS X e t) (i : ∀ D σ H, t' D σ H → t D σ H) : PS X e t' := ⟨fun pins s σ H D I w => h.run pins s σ H D I (i D σ H w)⟩
theorem PSs_imp {e : List Stmt} {t t' : TS} (h : PSs X e t) (i : ∀ D σ H, t' D σ H → t D σ H) : PSs X e t' := ⟨fun pins s σ H D I w => h.run pins s σ H D I (i D σ H w)⟩
theorem PG_imp {e : Expr} {t t' : TG} (h : PG X e t) (i : ∀ v σ H Q, t' v σ H Q → t v σ H Q) : PG X e t' := ⟨fun pins s σ H v u Q I r w => h.run pins s σ H v u Q I r (i v σ H Q w)⟩
theorem PGs_imp {e : List Expr} {t t' : TGs} (h : PGs X e t) (i : ∀ v σ H Q, t' v σ H Q → t v σ H Q) : PGs X e t' := ⟨fun pins s σ H v u Q I r w => h.run pins s σ H v u Q I r (i v σ H Q w)⟩
end
def eVar (i : Nat) : Lo → S → R W := fun l s => match l[i]? with
  | some (some w) => .ok w s
  | _ => .bad
def eC (w : W) : Lo → S → R W := fun _ s => .ok w s
def eBin (f : Hh → W → W → S → O2) (p : Hh) (ma mb : Lo → S → R W) : Lo → S → R W := fun l s => (ma l s).bind fun x s1 => (mb l s1).bind fun y s2 => R.ofO (f p x y s2)
def eUn (f : Hh → W → S → O2) (p : Hh) (ma : Lo → S → R W) : Lo → S → R W := fun l s => (ma l s).bind fun x s1 => R.ofO (f p x s1)
def aNil : Lo → S → R (List W) := fun _ s => .ok [] s
def aCons (ma : Lo → S → R W) (mr : Lo → S → R (List W)) : Lo → S → R (List W) := fun l s => (ma l s).bind fun x s1 => (mr l s1).bind fun xs s2 => .ok (x :: xs) s2
def eTup (mr : Lo → S → R (List W)) : Lo → S → R W := fun l s => (mr l s).bind fun xs s1 => if xs.length ≤ 1000000 then .ok (.tup xs) s1 else .bad
def eLst (p : Hh) (mr : Lo → S → R (List W)) : Lo → S → R W := fun l s => (mr l s).bind fun xs s1 => if xs.length ≤ 1000000 then .ok (.ref (nxt p s1)) (al s1 (.lst xs)) else .bad
def eB (f : Hh → List W → S → O2) (p : Hh) (mr : Lo → S → R (List W)) : Lo → S → R W := fun l s => (mr l s).bind fun xs s1 => R.ofO (f p xs s1)
def eCall (F : Hh → List W → R W) (p : Hh) (ds : List W) (mr : Lo → S → R (List W)) : Lo → S → R W := fun l s => (mr l s).bind fun xs s1 => callF F p (xs ++ ds) s1
def isC (p : Hh) (s : S) (c : Nat) : W → Bool
  | .ref n => (match rd p s n with | some (.ins d _) => d == c | _ => false)
  | _ => false
def eMeth (c : Nat) (F : Hh → List W → R W) (p : Hh) (ds : List W) (mo : Lo → S → R W) (mr : Lo → S → R (List W)) : Lo → S → R W := fun l s => (mo l s).bind fun o s1 => match isC p s1 c o with
  | true => (mr l s1).bind fun xs s2 => callF F p (o :: (xs ++ ds)) s2
  | false => .bad
def makeM (c : Nat) (F : Hh → List W → R W) (p : Hh) (xs : List W) (s : S) : R W := match callF F p (.ref (nxt p s) :: xs) (al s (.ins c [])) with
  | .ok .non s1 => .ok (.ref (nxt p s)) s1
  | .exc c w s => .exc c w s
  | _ => .bad
def eMakeM (c : Nat) (F : Hh → List W → R W) (p : Hh) (ds : List W) (mr : Lo → S → R (List W)) : Lo → S → R W := fun l s => (mr l s).bind fun xs s1 => makeM c F p (xs ++ ds) s1
def eIf (mt : Lo → S → R Bool) (ma mb : Lo → S → R W) : Lo → S → R W := fun l s => (mt l s).bind fun c s1 => match c with
  | true => ma l s1
  | false => mb l s1
def eAndV (ma mb : Lo → S → R W) : Lo → S → R W := fun l s => (ma l s).bind fun x s1 => match x with
  | .bl true => mb l s1
  | .bl false => .ok (.bl false) s1
  | _ => .bad
def eOrV (ma mb : Lo → S → R W) : Lo → S → R W := fun l s => (ma l s).bind fun x s1 => match x with
  | .bl false => mb l s1
  | .bl true => .ok (.bl true) s1
  | _ => .bad
def eNotV (ma : Lo → S → R W) : Lo → S → R W := fun l s => (ma l s).bind fun x s1 => match x with
  | .bl c => .ok (.bl (!c)) s1
  | _ => .bad
def tVal (ma : Lo → S → R W) : Lo → S → R Bool := fun l s => (ma l s).bind fun x s1 => match x with
  | .bl c => .ok c s1
  | _ => .bad
def tAndT (ma mb : Lo → S → R Bool) : Lo → S → R Bool := fun l s => (ma l s).bind fun c s1 => match c with
  | true => mb l s1
  | false => .ok false s1
def tOrT (ma mb : Lo → S → R Bool) : Lo → S → R Bool := fun l s => (ma l s).bind fun c s1 => match c with
  | false => mb l s1
  | true => .ok true s1
def tNotT (ma : Lo → S → R Bool) : Lo → S → R Bool := fun l s => (ma l s).bind fun c s1 => .ok (!c) s1
def eChain (f f' : Hh → W → W → S → O2) (p : Hh) (ma mb mc : Lo → S → R W) : Lo → S → R W := fun l s => (ma l s).bind fun x s1 => (mb l s1).bind fun y s2 => (R.ofO (f p x y s2)).bind fun z s3 => match z with
  | .bl true => (mc l s3).bind fun u s4 => R.ofO (f' p y u s4)
  | .bl false => .ok (.bl false) s3
  | _ => .bad
def sNx : Lo → S → RS := fun l s => .nx l s
def sSeq (m k : Lo → S → RS) : Lo → S → RS := fun l s => match m l s with
  | .nx l1 s1 => k l1 s1
  | r => r
def R.toS (l : Lo) (r : R W) (k : W → S → RS) : RS := match r with
  | .ok w s => k w s
  | .exc c w s => .exc c w l s
  | .bad => .bad
def sEx (me : Lo → S → R W) : Lo → S → RS := fun l s => (me l s).toS l fun _ s1 => .nx l s1
def sRet (me : Lo → S → R W) : Lo → S → RS := fun l s => (me l s).toS l fun w s1 => .ret w s1
def sRetN : Lo → S → RS := fun _ s => .ret .non s
def sBrk : Lo → S → RS := fun l s => .brk l s
def sCt : Lo → S → RS := fun l s => .ct l s
abbrev OG := Option (Lo × S)
def nxO : OG → RS
  | some (l, s) => .nx l s
  | none => .bad
def sAsg (g : W → Lo → S → OG) (me : Lo → S → R W) : Lo → S → RS := fun l s => (me l s).toS l fun w s1 => nxO (g w l s1)
def gNm (i : Nat) : W → Lo → S → OG := fun w l s => some (l.set i (some w), s)
def sIf (mt : Lo → S → R Bool) (ma mb : Lo → S → RS) : Lo → S → RS := fun l s => match mt l s with
  | .ok true s1 => ma l s1
  | .ok false s1 => mb l s1
  | .exc c w s1 => .exc c w l s1
  | .bad => .bad
def sAug (f : Hh → W → W → S → O2) (p : Hh) (i : Nat) (me : Lo → S → R W) : Lo → S → RS := fun l s => match l[i]? with
  | some (some x) => (me l s).toS l fun y s1 => match f p x y s1 with
    | some (z, s2) => .nx (l.set i (some z)) s2
    | none => .bad
  | _ => .bad
def sPar2 (i j : Nat) (mr : Lo → S → R (List W)) : Lo → S → RS := fun l s => match mr l s with
  | .ok [x, y] s1 => .nx ((l.set i (some x)).set j (some y)) s1
  | .exc c w s1 => .exc c w l s1
  | _ => .bad
def gsNil : List W → Lo → S → OG := fun ws l s => match ws with
  | [] => some (l, s)
  | _ => none
def gsCons (g : W → Lo → S → OG) (r : List W → Lo → S → OG) : List W → Lo → S → OG := fun ws l s => match ws with
  | w :: ws' => (match g w l s with
    | some (l1, s1) => r ws' l1 s1
    | none => none)
  | _ => none
def gTupT (n : Nat) (r : List W → Lo → S → OG) : W → Lo → S → OG := fun w l s => match w with
  | .tup ws => if ws.length = n then r ws l s else none
  | _ => none
def gSubT (f : Hh → W → W → W → S → Option S) (p : Hh) (mo mi : Lo → S → R W) : W → Lo → S → OG := fun w l s => match mo l s with
  | .ok o s1 => (match mi l s1 with
    | .ok i s2 => (match f p o i w s2 with
      | some s3 => some (l, s3)
      | none => none)
    | _ => none)
  | _ => none
section
variable {G : GE} {p : Hh} {E : WX} {X : Cx} {k : Nat} {pos : Pos}
theorem se_var (i : Nat) {x : Str} (hN : X.N[i]? = some x := by rfl) (hv : Vis X.env.scope x := by first | exact Or.inl rfl | exact Or.inr (Or.inl rfl) | exact Or.inr (Or.inr rfl)) (hd : (x == ("__debug__" : Str)) = false := by decide)
    (hcd : (x == ("__classdict__" : Str)) = false := by decide) : SE G p E X (.Name x pos) (eVar i) :=
  PE_imp (pe_var hN hv hd hcd) fun σ H Q ⟨ρ, l, s, rl, rp, h⟩ => by
    unfold eVar at h
    cases e : l[i]? with
    | none => rw [e] at h; exact h.elim
    | some q => cases q with
      | none => rw [e] at h; exact h.elim
      | some w =>
        rw [e] at h
        obtain ⟨v, e1, r⟩ := rl.has i w e
        exact ⟨v, e1, h ρ H v Ex.rfl' rp r⟩
theorem se_of {e : Expr} {v : V} {w : W} (h : PE X e (tC v)) (r : ∀ ρ H, RV G ρ H w v) : SE G p E X e (eC w) :=
  PE_imp h fun σ H Q ⟨ρ, l, s, rl, rp, h⟩ => h ρ H v Ex.rfl' rp (r ρ H)
theorem se_int {i : Int} {j} : SE G p E X (.Constant (.int i) j pos) (eC (.int i)) := se_of pe_int fun _ _ => .int i
theorem se_bl {b : Bool} {j} : SE G p E X (.Constant (.bool b) j pos) (eC (.bl b)) := se_of pe_bl fun _ _ => .bl b
theorem se_non {j} : SE G p E X (.Constant .none j pos) (eC .non) := se_of pe_non fun _ _ => .non
theorem se_str {x : Str} {j} : SE G p E X (.Constant (.str x) j pos) (eC (.str x)) := se_of pe_str fun _ _ => .str x
def OpI (G : GE) (X : Cx) (F : Value → Value → Sem Value) (f : Hh → W → W → S → O2) : Prop :=
  ∀ p, OpR X F (fun v u H Q => ∃ ρ s x y, Rep G ρ p s H ∧ RV G ρ H x v ∧ RV G ρ H y u ∧ PoO G p ρ H (f p x y s) Q)
def UnI (G : GE) (X : Cx) (F : Value → Sem Value) (f : Hh → W → S → O2) : Prop :=
  ∀ p, UnR X F (fun v H Q => ∃ ρ s x, Rep G ρ p s H ∧ RV G ρ H x v ∧ PoO G p ρ H (f p x s) Q)
def CallI (G : GE) (X : Cx) (F : Value) (f : Hh → List W → S → O2) : Prop :=
  ∀ p, CallR X F (fun vs H Q => ∃ ρ s xs, Rep G ρ p s H ∧ RVs G ρ H xs vs ∧ PoO G p ρ H (f p xs s) Q)
variable {a b c o i : Expr} {ma mb mc mo mi : Lo → S → R W} {es : List Expr} {mr : Lo → S → R (List W)}
theorem bin_way {f : Hh → W → W → S → O2} {σ : L2.St} {H : Hp} {Q : VK} (h : tI G p E (eBin f p ma mb) σ H Q) :
    tOp (fun v u H Q => ∃ ρ s x y, Rep G ρ p s H ∧ RV G ρ H x v ∧ RV G ρ H y u ∧ PoO G p ρ H (f p x y s) Q) (tI G p E ma) (tI G p E mb) σ H Q := by
  obtain ⟨ρ, l, s, rl, rp, h⟩ := h
  exact ⟨ρ, l, s, rl, rp, PoA.bind h fun x s1 ρ1 H1 v x1 rp1 rv1 h1 => ⟨ρ1, l, s1, rl.mono x1, rp1, PoA.bind h1 fun y s2 ρ2 H2 u x2 rp2 rv2 h2 => ⟨ρ2, s2, x, y, rp2, rv1.mono x2, rv2, po_of h2⟩⟩⟩
theorem se_bin {op : Operator} {f : Hh → W → W → S → O2} (ho : OpI G X (binaryOp op) f) (ha : SE G p E X a ma) (hb : SE G p E X b mb) : SE G p E X (.BinOp a op b pos) (eBin f p ma mb) :=
  PE_imp (pe_op (ho p) ha hb) fun σ H Q h => bin_way h
theorem se_cmp {op : CmpOp} {f : Hh → W → W → S → O2} (ho : OpI G X (compareOp op) f) (ha : SE G p E X a ma) (hb : SE G p E X b mb) (hm : behindInMarks op b = false := by first | rfl | exact nomark _) : SE G p E X (.Compare a [op] [b] pos) (eBin f p ma mb) :=
  PE_imp (pe_cmpR (ho p) ha hb hm) fun σ H Q h => bin_way h
theorem se_un {op : UnaryOp} {f : Hh → W → S → O2} (ho : UnI G X (unaryOp op) f) (ha : SE G p E X a ma) : SE G p E X (.UnaryOp op a pos) (eUn f p ma) :=
  PE_imp (pe_un (ho p) ha) fun σ H Q ⟨ρ, l, s, rl, rp, h⟩ => ⟨ρ, l, s, rl, rp, PoA.bind h fun x s1 ρ1 H1 v x1 rp1 rv1 h1 => ⟨ρ1, s1, x, rp1, rv1, po_of h1⟩⟩
theorem st_val (ha : SE G p E X a ma) (he : ∀ whole, isTrue a X.env whole = (do let v ← whole; standAt a.pos; holding [v] (truthy v)) := by intro _; rfl) : ST G p E X a (tVal ma) :=
  PT_imp (pt_val ha he) fun σ H Q ⟨ρ, l, s, rl, rp, h⟩ => ⟨ρ, l, s, rl, rp, PoA.bind h fun x s1 ρ1 H1 v x1 rp1 rv1 h1 => by
    cases rv1 <;> first | exact h1.elim | skip
    exact ⟨_, rfl, h1 ρ1 H1 _ Ex.rfl' rp1 rfl⟩⟩
theorem st_cmp {op : CmpOp} {f : Hh → W → W → S → O2} (ho : OpI G X (compareOp op) f) (ha : SE G p E X a ma) (hb : SE G p E X b mb) (hm : behindInMarks op b = false := by first | rfl | exact nomark _) : ST G p E X (.Compare a [op] [b] pos) (tVal (eBin f p ma mb)) :=
  PT_imp (pt_cmpR (ho p) ha hb hm) fun σ H Q ⟨ρ, l, s, rl, rp, h⟩ => by
    refine bin_way (E := E) ⟨ρ, l, s, rl, rp, ?_⟩
    refine PoA.bind h fun x s1 ρ1 H1 v x1 rp1 rv1 h1 => ?_
    cases rv1 <;> first | exact h1.elim | skip
    exact ⟨_, rfl, h1 ρ1 H1 _ Ex.rfl' rp1 rfl⟩
theorem chain_way {f f' : Hh → W → W → S → O2} {σ : L2.St} {H : Hp} {Q : VK} (h : tI G p E (eChain f f' p ma mb mc) σ H Q) :
    tChain (fun v u H Q => ∃ ρ s x y, Rep G ρ p s H ∧ RV G ρ H x v ∧ RV G ρ H y u ∧ PoO G p ρ H (f p x y s) Q) (fun v u H Q => ∃ ρ s x y, Rep G ρ p s H ∧ RV G ρ H x v ∧ RV G ρ H y u ∧ PoO G p ρ H (f' p x y s) Q) (tI G p E ma) (tI G p E mb) (tI G p E mc) σ H Q := by
  obtain ⟨ρ, l, s, rl, rp, h⟩ := h
  refine ⟨ρ, l, s, rl, rp, PoA.bind h fun x s1 ρ1 H1 v x1 rp1 rv1 h1 => ⟨ρ1, l, s1, rl.mono x1, rp1, PoA.bind h1 fun y s2 ρ2 H2 u x2 rp2 rv2 h2 => ⟨ρ2, s2, x, y, rp2, rv1.mono x2, rv2, po_of (E := fun c d H' => E c d σ H') (PoA.bind h2 fun z s3 ρ3 H3 t x3 rp3 rv3 h3 => ?_)⟩⟩⟩
  cases rv3 <;> first | exact h3.elim | skip
  rename_i bb
  cases bb with
  | false => exact ⟨false, rfl, h3 ρ3 H3 _ Ex.rfl' rp3 (.bl false)⟩
  | true => exact ⟨true, rfl, ρ3, l, s3, ((rl.mono x1).mono x2).mono x3, rp3, PoA.bind h3 fun u s4 ρ4 H4 r x4 rp4 rv4 h4 => ⟨ρ4, s4, y, u, rp4, (rv2.mono x3).mono x4, rv4, po_of h4⟩⟩
theorem se_chain {op op' : CmpOp} {f f' : Hh → W → W → S → O2} (ho : OpI G X (compareOp op) f) (ho' : OpI G X (compareOp op') f') (ha : SE G p E X a ma) (hb : SE G p E X b mb) (hc : SE G p E X c mc)
    (hm : lastMarks [op, op'] [b, c] = false := by with_unfolding_all rfl) : SE G p E X (.Compare a [op, op'] [b, c] pos) (eChain f f' p ma mb mc) :=
  PE_imp (pe_chain (ho p) (ho' p) ha hb hc hm) fun σ H Q h => chain_way h
theorem st_chain {op op' : CmpOp} {f f' : Hh → W → W → S → O2} (ho : OpI G X (compareOp op) f) (ho' : OpI G X (compareOp op') f') (ha : SE G p E X a ma) (hb : SE G p E X b mb) (hc : SE G p E X c mc)
    (hm : lastMarks [op, op'] [b, c] = false := by with_unfolding_all rfl) : ST G p E X (.Compare a [op, op'] [b, c] pos) (tVal (eChain f f' p ma mb mc)) :=
  PT_imp (pt_chain (ho p) (ho' p) ha hb hc hm) fun σ H Q ⟨ρ, l, s, rl, rp, h⟩ => by
    refine chain_way (E := E) ⟨ρ, l, s, rl, rp, ?_⟩
    refine PoA.bind h fun x s1 ρ1 H1 v x1 rp1 rv1 h1 => ?_
    cases rv1 <;> first | exact h1.elim | skip
    exact ⟨_, rfl, h1 ρ1 H1 _ Ex.rfl' rp1 rfl⟩
variable {ta tb : Lo → S → R Bool} {rest : List Expr}
theorem st_w (h : SW G p E X a ta) : ST G p E X a ta := PW.pt h
theorem sw_and1 (h : ST G p E X a ta) : SW G p E X (.BoolOp .And [a] pos) ta := pw_and1 h
theorem sw_or1 (h : ST G p E X a ta) : SW G p E X (.BoolOp .Or [a] pos) ta := pw_or1 h
theorem sw_and (ha : ST G p E X a ta) (hb : SW G p E X (.BoolOp .And (b :: rest) pos) tb) : SW G p E X (.BoolOp .And (a :: b :: rest) pos) (tAndT ta tb) :=
  PW_imp (pw_and ha hb) fun σ H Q ⟨ρ, l, s, rl, rp, h⟩ => ⟨ρ, l, s, rl, rp, PoA.bind h fun x s1 ρ1 H1 v x1 rp1 rv1 h1 => by
    cases rv1
    cases x with
    | true => exact ⟨ρ1, l, s1, rl.mono x1, rp1, h1⟩
    | false => exact h1 ρ1 H1 _ Ex.rfl' rp1 rfl⟩
theorem sw_or (ha : ST G p E X a ta) (hb : SW G p E X (.BoolOp .Or (b :: rest) pos) tb) : SW G p E X (.BoolOp .Or (a :: b :: rest) pos) (tOrT ta tb) :=
  PW_imp (pw_or ha hb) fun σ H Q ⟨ρ, l, s, rl, rp, h⟩ => ⟨ρ, l, s, rl, rp, PoA.bind h fun x s1 ρ1 H1 v x1 rp1 rv1 h1 => by
    cases rv1
    cases x with
    | false => exact ⟨ρ1, l, s1, rl.mono x1, rp1, h1⟩
    | true => exact h1 ρ1 H1 _ Ex.rfl' rp1 rfl⟩
theorem st_not (ha : ST G p E X a ta) : ST G p E X (.UnaryOp .Not a pos) (tNotT ta) :=
  PT_imp (pt_not ha) fun σ H Q ⟨ρ, l, s, rl, rp, h⟩ => ⟨ρ, l, s, rl, rp, PoA.bind h fun x s1 ρ1 H1 v x1 rp1 rv1 h1 => by
    cases rv1
    exact h1 ρ1 H1 _ Ex.rfl' rp1 rfl⟩
theorem se_if (hc : ST G p E X c ta) (ha : SE G p E X a ma) (hb : SE G p E X b mb) : SE G p E X (.IfExp c a b pos) (eIf ta ma mb) :=
  PE_imp (pe_ifExp hc ha hb) fun σ H Q ⟨ρ, l, s, rl, rp, h⟩ => ⟨ρ, l, s, rl, rp, PoA.bind h fun x s1 ρ1 H1 v x1 rp1 rv1 h1 => by
    cases rv1
    cases x with
    | true => exact ⟨ρ1, l, s1, rl.mono x1, rp1, h1⟩
    | false => exact ⟨ρ1, l, s1, rl.mono x1, rp1, h1⟩⟩
theorem se_one {op} (h : SE G p E X a ma) : SE G p E X (.BoolOp op [a] pos) ma := pe_one h
theorem se_and (ha : SE G p E X a ma) (hb : SE G p E X (.BoolOp .And (b :: rest) pos) mb) : SE G p E X (.BoolOp .And (a :: b :: rest) pos) (eAndV ma mb) :=
  PE_imp (pe_and ha hb) fun σ H Q ⟨ρ, l, s, rl, rp, h⟩ => ⟨ρ, l, s, rl, rp, PoA.bind h fun x s1 ρ1 H1 v x1 rp1 rv1 h1 => by
    cases rv1 <;> first | exact h1.elim | skip
    rename_i bb
    cases bb with
    | true => exact ⟨true, rfl, ρ1, l, s1, rl.mono x1, rp1, h1⟩
    | false => exact ⟨false, rfl, h1 ρ1 H1 _ Ex.rfl' rp1 (.bl false)⟩⟩
theorem se_or (ha : SE G p E X a ma) (hb : SE G p E X (.BoolOp .Or (b :: rest) pos) mb) : SE G p E X (.BoolOp .Or (a :: b :: rest) pos) (eOrV ma mb) :=
  PE_imp (pe_or ha hb) fun σ H Q ⟨ρ, l, s, rl, rp, h⟩ => ⟨ρ, l, s, rl, rp, PoA.bind h fun x s1 ρ1 H1 v x1 rp1 rv1 h1 => by
    cases rv1 <;> first | exact h1.elim | skip
    rename_i bb
    cases bb with
    | false => exact ⟨false, rfl, ρ1, l, s1, rl.mono x1, rp1, h1⟩
    | true => exact ⟨true, rfl, h1 ρ1 H1 _ Ex.rfl' rp1 (.bl true)⟩⟩
theorem se_not (ha : SE G p E X a ma) : SE G p E X (.UnaryOp .Not a pos) (eNotV ma) :=
  PE_imp (pe_not ha) fun σ H Q ⟨ρ, l, s, rl, rp, h⟩ => ⟨ρ, l, s, rl, rp, PoA.bind h fun x s1 ρ1 H1 v x1 rp1 rv1 h1 => by
    cases rv1 <;> first | exact h1.elim | skip
    exact ⟨_, rfl, h1 ρ1 H1 _ Ex.rfl' rp1 (.bl _)⟩⟩
theorem sa_nil : SA G p E X [] aNil := PA_imp pa_nil fun σ H Q ⟨ρ, l, s, rl, rp, h⟩ => h ρ H [] Ex.rfl' rp .nil
theorem sa_cons (ha : SE G p E X a ma) (hr : SA G p E X es mr) (hs : starEach (a :: es) X.env = (false, eval a X.env) :: starEach es X.env := by rfl) : SA G p E X (a :: es) (aCons ma mr) :=
  PA_imp (pa_cons ha hr hs) fun σ H Q ⟨ρ, l, s, rl, rp, h⟩ => ⟨ρ, l, s, rl, rp, PoA.bind h fun x s1 ρ1 H1 v x1 rp1 rv1 h1 => ⟨ρ1, l, s1, rl.mono x1, rp1, PoA.bind h1 fun xs s2 ρ2 H2 vs x2 rp2 rv2 h2 => h2 ρ2 H2 _ Ex.rfl' rp2 (.cons (rv1.mono x2) rv2)⟩⟩
theorem million {n : Nat} (h : n ≤ 1000000) : n ≤ sizeLine := by rw [sizeLine_eq]; omega
theorem se_tup {x1} (h : SA G p E X es mr) : SE G p E X (.Tuple es x1 pos) (eTup mr) :=
  PE_imp (pe_tup h) fun σ H Q ⟨ρ, l, s, rl, rp, h⟩ => ⟨ρ, l, s, rl, rp, PoA.bind h fun xs s1 ρ1 H1 vs x1 rp1 rv1 h1 => by
    split at h1
    · rename_i hl
      refine ⟨million (by rw [← rv1.len]; exact hl), fun q hq => h1 ρ1 _ _ (Ex.fresh rp1 hq) (rp1.fresh hq) (.tup (rp1.ref_none hq) upd_same (rv1.mono (Ex.fresh rp1 hq)))⟩
    · exact h1.elim⟩
theorem se_lst (h : SA G p E X es mr) : SE G p E X (.List es pos) (eLst p mr) :=
  PE_imp (pe_lst h) fun σ H Q ⟨ρ, l, s, rl, rp, h⟩ => ⟨ρ, l, s, rl, rp, PoA.bind h fun xs s1 ρ1 H1 vs x1 rp1 rv1 h1 => by
    split at h1
    · rename_i hl
      refine ⟨million (by rw [← rv1.len]; exact hl), fun q hq => ?_⟩
      have xx : Ex ρ1 H1 (ρ1 ++ [q]) (upd H1 q (.lst vs)) := Ex.al rp1 hq
      obtain ⟨_, r2, r3⟩ := rp1.al_ (o := .lst xs) hq (.lst (rv1.mono xx))
      exact h1 _ _ _ xx r2 r3
    · exact h1.elim⟩
theorem b_way {r : List V → Hp → VK → Prop} {f : Hh → List W → S → O2} {σ : L2.St} {H : Hp} {Q : VK} (h : tI G p E (eB f p mr) σ H Q) :
    tCB (fun vs H Q => ∃ ρ s xs, Rep G ρ p s H ∧ RVs G ρ H xs vs ∧ PoO G p ρ H (f p xs s) Q) (tA G p E mr) σ H Q := by
  obtain ⟨ρ, l, s, rl, rp, h⟩ := h
  exact ⟨ρ, l, s, rl, rp, PoA.bind h fun xs s1 ρ1 H1 vs x1 rp1 rv1 h1 => ⟨ρ1, s1, xs, rp1, rv1, po_of h1⟩⟩
theorem se_b {x : Str} {id : String} {f : Hh → List W → S → O2} {p' : Pos} (hc : CallI G X (.builtin id) f) (hm : X.mg x = none) (ha : SA G p E X (a :: es) mr) (hv : bootBuiltins x = some (.builtin id) := by decide +kernel) (hg : Gl X x := by rfl) (hn : x ≠ "__name__" := by decide) (hdb : (x == ("__debug__" : Str)) = false := by decide)
    (he : starEach (a :: es) X.env = (false, eval a X.env) :: starEach es X.env := by rfl) (hpl : (backTo pos (starEach es X.env)).any (·.1) = false := by rfl) : SE G p E X (.Call (.Name x p') (a :: es) [] pos) (eB f p mr) :=
  PE_imp (pe_callB (hc p) hg hm hv ha hn hdb he hpl) fun σ H Q h => b_way (r := fun _ _ _ => True) h
theorem se_bt {x : Str} {T : String} {f : Hh → List W → S → O2} {p' : Pos} (hc : CallI G X (.type T) f) (hm : X.mg x = none) (ha : SA G p E X (a :: es) mr) (hv : bootBuiltins x = some (.type T) := by decide +kernel) (hg : Gl X x := by rfl) (hn : x ≠ "__name__" := by decide) (hdb : (x == ("__debug__" : Str)) = false := by decide)
    (he : starEach (a :: es) X.env = (false, eval a X.env) :: starEach es X.env := by rfl) (hpl : (backTo pos (starEach es X.env)).any (·.1) = false := by rfl) : SE G p E X (.Call (.Name x p') (a :: es) [] pos) (eB f p mr) :=
  PE_imp (pe_callTy (hc p) hg hm hv ha hn hdb he hpl) fun σ H Q h => b_way (r := fun _ _ _ => True) h
variable {st : Stmt} {sts : List Stmt} {m m' : Lo → S → RS}
theorem PoS.nx {p : Hh} {ρ : List Addr} {H : Hp} {l : Lo} {s : S} {D : Ends} {σ : L2.St} (h : PoS G p ρ H (.nx l s) D E) (rp : Rep G ρ p s H) (rl : RL G ρ H l σ) : D.nx σ H := h ρ H σ Ex.rfl' rp rl
theorem sb_nil : SB G p E X [] sNx := PSs_imp pss_nil fun D σ H ⟨ρ, l, s, rl, rp, h⟩ => h ρ H σ Ex.rfl' rp rl
theorem PoS.seq {ρ : List Addr} {H : Hp} {r : RS} {k : Lo → S → RS} {D : Ends} (h : PoS G p ρ H (match r with | .nx l1 s1 => k l1 s1 | r => r) D E) : PoS G p ρ H r { D with nx := tS G p E k D } E := by
  cases r with
  | nx l s => exact fun ρ' H' σ' x rp rl => ⟨ρ', l, s, rl, rp, PoS.base h x⟩
  | _ => exact h
theorem sb_cons (h1 : SS G p E X st m) (h2 : SB G p E X sts m') : SB G p E X (st :: sts) (sSeq m m') :=
  PSs_imp (pss_cons h1 h2) fun D σ H ⟨ρ, l, s, rl, rp, h⟩ => ⟨ρ, l, s, rl, rp, PoS.seq h⟩
theorem sb_one (h1 : SS G p E X st m) : SB G p E X [st] m := pss_one h1
theorem PoS.val {ρ : List Addr} {H : Hp} {σ : L2.St} {l : Lo} {r : R W} {k : W → S → RS} {D : Ends} {Q : VK} (rl : RL G ρ H l σ) (h : PoS G p ρ H (r.toS l k) D E)
    (hk : ∀ w s' ρ' H' v, Ex ρ H ρ' H' → Rep G ρ' p s' H' → RV G ρ' H' w v → PoS G p ρ' H' (k w s') D E → Q v H') : PoV G p ρ H r Q (fun c d H' => E c d σ H') := by
  cases r with
  | ok w s => exact fun ρ' H' v x y z => hk w s ρ' H' v x y z (PoS.base h x)
  | exc c w s => exact fun ρ' H' d x y z => h ρ' H' d σ x y z (rl.mono x)
  | bad => exact h
theorem ss_ex (ha : SE G p E X a ma) (hs : swapsWith a none pos.line X.env = pure false := by rfl) : SS G p E X (.Expr a pos) (sEx ma) :=
  PS_imp (ps_expr ha hs) fun D σ H ⟨ρ, l, s, rl, rp, h⟩ => ⟨ρ, l, s, rl, rp, PoS.val rl h fun w s1 ρ1 H1 v x1 rp1 rv1 h1 => h1 ρ1 H1 σ Ex.rfl' rp1 (rl.mono x1)⟩
theorem ss_ret (ha : SE G p E X a ma) : SS G p E X (.Return (some a) pos) (sRet ma) :=
  PS_imp (ps_ret ha) fun D σ H ⟨ρ, l, s, rl, rp, h⟩ => ⟨ρ, l, s, rl, rp, PoS.val rl h fun w s1 ρ1 H1 v x1 rp1 rv1 h1 => h1 ρ1 H1 v Ex.rfl' rp1 rv1⟩
theorem ss_if {sa sb : List Stmt} (hc : ST G p E X c ta) (ha : SB G p E X sa m) (hb : SB G p E X sb m') : SS G p E X (.If c sa sb pos) (sIf ta m m') :=
  PS_imp (ps_if hc ha hb) fun D σ H ⟨ρ, l, s, rl, rp, h⟩ => ⟨ρ, l, s, rl, rp, by
    unfold sIf at h
    cases e : ta l s with
    | bad => rw [e] at h; exact h.elim
    | exc c w s1 => rw [e] at h; exact fun ρ' H' d x y z => h ρ' H' d σ x y z (rl.mono x)
    | ok bb s1 =>
      rw [e] at h
      refine fun ρ1 H1 v x1 rp1 rv1 => ?_
      cases rv1
      cases bb with
      | true => exact ⟨ρ1, l, s1, rl.mono x1, rp1, PoS.base h x1⟩
      | false => exact ⟨ρ1, l, s1, rl.mono x1, rp1, PoS.base h x1⟩⟩
variable {tg : Expr} {tgs : List Expr} {g : W → Lo → S → OG} {gs : List W → Lo → S → OG}
theorem PoG.base {ρ ρ1 : List Addr} {H H1 : Hp} {r : Option (Lo × S)} {Q : L2.St → Hp → Prop} (h : PoG G p ρ H r Q) (x : Ex ρ H ρ1 H1) : PoG G p ρ1 H1 r Q := by
  cases r with
  | none => exact h
  | some q => exact fun ρ' H' σ' y => h ρ' H' σ' (x.trans y)
theorem sg_nm (i : Nat) {x : Str} (hN : X.N.Nodup) (hi : X.N[i]? = some x := by rfl) (hx : Loc X.env.scope x := by first | exact .inl rfl | exact .inr rfl) (hf : X.fn x = true ∨ X.env.scope.names.lookup x = some .local := by first | exact .inl rfl | exact .inr rfl | assumption) (hh : G.hold ≠ some i := by intro z; cases z) : SG G p X (.Name x pos) (gNm i) :=
  PG_imp (pg_name hN hi hx hf) fun v σ H Q ⟨ρ, l, s, w, rl, rp, rv, h⟩ => h ρ H _ Ex.rfl' rp (rl.set i rv hh)
theorem sgs_nil : SGs G p X [] gsNil := PGs_imp pgs_nil fun v σ H Q ⟨ρ, l, s, ws, rl, rp, rv, h⟩ => by
  cases rv with
  | nil => exact ⟨rfl, h ρ H σ Ex.rfl' rp rl⟩
  | cons _ _ => exact h.elim
theorem sgs_cons (h1 : SG G p X tg g) (h2 : SGs G p X tgs gs) (hs : (assignEach (tg :: tgs) X.env).map (·.2) = assign tg X.env :: (assignEach tgs X.env).map (·.2) := by rfl) : SGs G p X (tg :: tgs) (gsCons g gs) :=
  PGs_imp (pgs_cons h1 h2 hs) fun v σ H Q ⟨ρ, l, s, ws, rl, rp, rv, h⟩ => by
    cases rv with
    | nil => exact h.elim
    | @cons w v1 ws' vs' r1 r2 =>
      refine ⟨_, _, rfl, ρ, l, s, w, rl, rp, r1, ?_⟩
      unfold gsCons at h
      dsimp only at h
      cases e : g w l s with
      | none => rw [e] at h; exact h
      | some q =>
        obtain ⟨l1, s1⟩ := q
        rw [e] at h
        exact fun ρ' H' σ' x y z => ⟨ρ', l1, s1, ws', z, y, r2.mono x, PoG.base h x⟩
theorem sg_tup {n : Nat} {kk : Nat} (hc : X.calm = true) (h : SGs G p X tgs gs) (hn : (assignEach tgs X.env).length = n := by rfl) (hst : (assignEach tgs X.env).findIdx? (·.1) = none := by rfl) : SG G p X (.Tuple tgs kk pos) (gTupT n gs) :=
  PG_imp (pg_tup hc h hn hst) fun v σ H Q ⟨ρ, l, s, w, rl, rp, rv, h⟩ => by
    cases rv with
    | @tup a ws vs na ha r =>
      unfold gTupT at h
      dsimp only at h
      split at h
      · rename_i hl
        exact ⟨_, vs, rfl, SqT.of ha, by rw [← r.len]; exact hl, ρ, l, s, ws, rl, rp, r, h⟩
      · exact h.elim
    | _ => exact h.elim
theorem PoG.ofS {ρ : List Addr} {H : Hp} {r : OG} {D : Ends} (h : PoS G p ρ H (nxO r) D E) : PoG G p ρ H r D.nx := by
  cases r with
  | none => exact h
  | some q => obtain ⟨l, s⟩ := q; exact h
theorem ss_asg (ha : SE G p E X a ma) (hg : SG G p X tg g) (hs : swapsWithSole [tg] a pos.line X.env = pure false := by rfl) (hw : swappedStores [tg] a X.env = pure none := by rfl)
    (h1 : (assignEach [tg] X.env).map (·.2) = [assign tg X.env] := by rfl) : SS G p E X (.Assign [tg] a pos) (sAsg g ma) :=
  PS_imp (ps_asg ha hg hs hw h1) fun D σ H ⟨ρ, l, s, rl, rp, h⟩ => ⟨ρ, l, s, rl, rp, PoS.val rl h fun w s1 ρ1 H1 v x1 rp1 rv1 h1 => ⟨ρ1, l, s1, w, rl.mono x1, rp1, rv1, PoG.ofS h1⟩⟩
theorem ss_set (i : Nat) {x : Str} {pos' : Pos} (ha : SE G p E X a ma) (hN : X.N.Nodup) (hi : X.N[i]? = some x := by rfl) (hx : Loc X.env.scope x := by first | exact .inl rfl | exact .inr rfl) (hs : swapsWith a (some (.Name x pos')) pos.line X.env = pure false := by rfl)
    (hf : X.fn x = true ∨ X.env.scope.names.lookup x = some .local := by first | exact .inl rfl | exact .inr rfl | assumption) (hh : G.hold ≠ some i := by intro z; cases z) : SS G p E X (.Assign [.Name x pos'] a pos) (sAsg (gNm i) ma) :=
  PS_imp (ps_set hN hi hx ha hs hf) fun D σ H ⟨ρ, l, s, rl, rp, h⟩ => ⟨ρ, l, s, rl, rp, PoS.val rl h fun w s1 ρ1 H1 v x1 rp1 rv1 h1 => h1 ρ1 H1 _ Ex.rfl' rp1 ((rl.mono x1).set i rv1 hh)⟩
theorem ss_par2 (i j : Nat) {x y : Str} {px py pt : Pos} {kt k2 pt2} (hc : X.calm = true) (hN : X.N.Nodup) (ha : SA G p E X [a, b] mr) (hi : X.N[i]? = some x := by rfl) (hj : X.N[j]? = some y := by rfl) (hij : i ≠ j := by decide)
    (hx : X.env.scope.names.lookup x = some .local := by rfl) (hy : X.env.scope.names.lookup y = some .local := by rfl)
    (hw : swappedStores [.Tuple [.Name x px, .Name y py] kt pt] (.Tuple [a, b] k2 pt2) X.env = pure (some [x, y]) := by rfl)
    (hs : swapsWithSole [.Tuple [.Name x px, .Name y py] kt pt] (.Tuple [a, b] k2 pt2) pos.line X.env = pure false := by rfl) (hh : G.hold ≠ some i := by intro z; cases z) (hh2 : G.hold ≠ some j := by intro z; cases z) :
    SS G p E X (.Assign [.Tuple [.Name x px, .Name y py] kt pt] (.Tuple [a, b] k2 pt2) pos) (sPar2 i j mr) :=
  PS_imp (ps_par hc hN hi hj hij hx hy ha hw hs) fun D σ H ⟨ρ, l, s, rl, rp, h⟩ => ⟨ρ, l, s, rl, rp, by
    unfold sPar2 at h
    cases e : mr l s with
    | bad => rw [e] at h; exact h.elim
    | exc c w s1 => rw [e] at h; exact fun ρ' H' d x y z => h ρ' H' d σ x y z (rl.mono x)
    | ok ws s1 =>
      rw [e] at h
      refine fun ρ1 H1 vs x1 rp1 rv1 => ?_
      match ws, vs, rv1, h with
      | [], _, _, h => exact h.elim
      | [_], _, _, h => exact h.elim
      | [w1, w2], _, .cons r1 (.cons r2 .nil), h => exact ⟨_, _, rfl, h ρ1 H1 _ x1 rp1 (((rl.mono x1).set i r1 hh).set j r2 hh2)⟩
      | _ :: _ :: _ :: _, _, _, h => exact h.elim⟩
def SetI (G : GE) (X : Cx) (f : Hh → W → W → W → S → Option S) : Prop :=
  ∀ p, PSet X (fun o i v H Q => ∃ ρ s wo wi w, Rep G ρ p s H ∧ RV G ρ H wo o ∧ RV G ρ H wi i ∧ RV G ρ H w v ∧ (match f p wo wi w s with | some s' => ∀ H', Ex ρ H ρ H' → Rep G ρ p s' H' → Q H' | none => False))
theorem sg_sub {f : Hh → W → W → W → S → Option S} (hs : SetI G X f) (ho : SE G p (fun _ _ _ _ => False) X o mo) (hi : SE G p (fun _ _ _ _ => False) X i mi)
    (ha : ∀ v, assign (.Subscript o i pos) X.env v = (do
      let ov ← holding [v] (eval o X.env)
      let iv ← holding [v, ov] (eval i X.env)
      standAt pos
      holding [v, ov, iv] (setItem ov iv v)
      release [v, ov, iv] []) := by intro _; rfl) : SG G p X (.Subscript o i pos) (gSubT f p mo mi) :=
  PG_imp (pg_sub ho hi (hs p) ha) fun v σ H Q ⟨ρ, l, s, w, rl, rp, rv, h⟩ => by
    unfold gSubT at h
    refine ⟨ρ, l, s, rl, rp, ?_⟩
    cases e : mo l s with
    | bad => rw [e] at h; exact h.elim
    | exc _ _ _ => rw [e] at h; exact h.elim
    | ok wo s1 =>
      rw [e] at h
      dsimp only at h
      refine fun ρ1 H1 ov x1 rp1 rv1 => ⟨ρ1, l, s1, rl.mono x1, rp1, ?_⟩
      cases e2 : mi l s1 with
      | bad => rw [e2] at h; exact h.elim
      | exc _ _ _ => rw [e2] at h; exact h.elim
      | ok wi s2 =>
        rw [e2] at h
        dsimp only at h
        refine fun ρ2 H2 iv x2 rp2 rv2 => ⟨ρ2, s2, wo, wi, w, rp2, rv1.mono x2, rv2, (rv.mono x1).mono x2, ?_⟩
        cases e3 : f p wo wi w s2 with
        | none => rw [e3] at h; exact h
        | some s3 =>
          rw [e3] at h
          exact fun H3 x3 rp3 => h ρ2 H3 σ ((x1.trans x2).trans x3) rp3 (((rl.mono x1).mono x2).mono x3)
end
end CC
set_option Elab.async false
set_option linter.all false
set_option maxRecDepth 100000
namespace CC
open PySem PySem.Spec PyProof.Rows L2
inductive ItD where
  | lst (n : Nat) | tup (ws : List W) | rng (lo c : Int) (n : Nat) | enl (n : Nat) | ent (ws : List W) | zip (n m : Nat) | str (z : Str)
def cellItems (p : Hh) (s : S) (n : Nat) : Option (List W) := match rd p s n with
  | some (.lst ws) => some ws
  | some (.frz ns) => some (ns.map W.int)
  | _ => none
def ItD.next (p : Hh) (s : S) : ItD → Nat → Option (Option W)
  | .lst n, i => (cellItems p s n).map fun ws => ws[i]?
  | .tup ws, i => some ws[i]?
  | .rng lo c n, i => some (if i < n then some (.int (lo + (i : Nat) * c)) else none)
  | .enl n, i => (cellItems p s n).map fun ws => ws[i]?.map fun w => .tup [.int (i : Nat), w]
  | .ent ws, i => some (ws[i]?.map fun w => .tup [.int (i : Nat), w])
  | .zip n m, i => match cellItems p s n, cellItems p s m with
    | some xs, some ys => some (match xs[i]?, ys[i]? with | some x, some y => some (.tup [x, y]) | _, _ => none)
    | _, _ => none
  | .str z, i => some (z.cps[i]?.map fun c => .str ⟨#[c]⟩)
def cellLen (p : Hh) (s : S) (n : Nat) : Nat := match cellItems p s n with
  | some ws => ws.length
  | none => 0
def ItD.cnt (p : Hh) (s : S) : ItD → Nat
  | .lst n => cellLen p s n
  | .tup ws => ws.length
  | .rng _ _ n => n
  | .enl n => cellLen p s n
  | .ent ws => ws.length
  | .zip n m => cellLen p s n
  | .str z => z.cps.size
structure RI (G : GE) (p : Hh) (ρ : List Addr) (H : Hp) (d : ItD) (J : It) : Prop where
  yes : ∀ i w s ρ1 H1, Ex ρ H ρ1 H1 → Rep G ρ1 p s H1 → d.next p s i = some (some w) → J.go i H1 ∧ ∀ x H2, J.yld i H1 x H2 → Ex ρ1 H1 ρ1 H2 ∧ Rep G ρ1 p s H2 ∧ RV G ρ1 H2 w x
  no : ∀ i s ρ1 H1, Ex ρ H ρ1 H1 → Rep G ρ1 p s H1 → d.next p s i = some none → J.stop i H1
def PoI (G : GE) (p : Hh) (ρ : List Addr) (H : Hp) (r : R ItD) (Q : It → Hp → Prop) (E : XK) : Prop := PoA G p ρ H (fun ρ' H' d J => RI G p ρ' H' d J) r Q E
def tIt (G : GE) (p : Hh) (E : WX) (m : Lo → S → R ItD) : TI := fun σ H Q => ∃ ρ l s, RL G ρ H l σ ∧ Rep G ρ p s H ∧ PoI G p ρ H (m l s) Q (fun c d H' => E c d σ H')
def SI (G : GE) (p : Hh) (E : WX) (X : Cx) (tg iter : Expr) (m : Lo → S → R ItD) : Prop := PI X tg iter (tIt G p E m)
theorem PI_imp {X : Cx} {tg e : Expr} {t t' : TI} (h : PI X tg e t) (i : ∀ σ H Q, t' σ H Q → t σ H Q) : PI X tg e t' := ⟨fun pins s σ H Q I w => h.run pins s σ H Q I (i σ H Q w)⟩
def iSeq (ma : Lo → S → R W) (p : Hh) : Lo → S → R ItD := fun l s => (ma l s).bind fun w s1 => match w with
  | .ref n => (match cellItems p s1 n with | some _ => .ok (.lst n) s1 | none => .bad)
  | .tup ws => .ok (.tup ws) s1
  | _ => .bad
section
variable {G : GE} {p : Hh} {E : WX} {X : Cx} {ρ : List Addr} {H : Hp} {s : S}
theorem cell_seq {K : PySem.W.Frag} {n : Nat} {ws : List W} {a : Addr} (rp : Rep G ρ p s H) (h : cellItems p s n = some ws) (e : ρ[n]? = some a) : ∃ vs, SqL K H a vs ∧ RVs G ρ H ws vs := by
  unfold cellItems at h
  cases q : rd p s n with
  | none => rw [q] at h; cases h
  | some o =>
    obtain ⟨u, hu, ro⟩ := rp.at q e
    rw [q] at h
    cases ro with
    | lst r => cases h; exact ⟨_, .inl (.inl hu), r⟩
    | @frz ns o =>
      cases h
      refine ⟨_, .inl (.inr ⟨o, hu⟩), ?_⟩
      clear hu q rp e
      induction ns with
      | nil => exact .nil
      | cons i r ih => exact .cons (.int i) ih
    | dK _ _ => cases h
    | dT _ _ => cases h
    | ins _ _ => cases h
theorem ri_lst {K : PySem.W.Frag} {n : Nat} {a : Addr} (e : ρ[n]? = some a) : RI G p ρ H (.lst n) (Itl K a) where
  yes := fun i w s ρ1 H1 x rp h => by
    simp only [ItD.next] at h
    cases q : cellItems p s n with
    | none => rw [q] at h; cases h
    | some ws =>
      rw [q] at h
      have h : ws[i]? = some w := Option.some.inj h
      obtain ⟨vs, hs, r⟩ := cell_seq (K := K) rp q (x.get e)
      obtain ⟨v, hv, rv⟩ := r.get h
      refine ⟨⟨vs, v, hs, hv⟩, fun y H2 hy => ?_⟩
      obtain ⟨rfl, hy⟩ := hy
      have e2 := hy vs hs
      rw [hv] at e2; cases e2
      exact ⟨Ex.rfl', rp, rv⟩
  no := fun i s ρ1 H1 x rp h => by
    simp only [ItD.next] at h
    cases q : cellItems p s n with
    | none => rw [q] at h; cases h
    | some ws =>
      rw [q] at h
      have h : ws[i]? = none := Option.some.inj h
      obtain ⟨vs, hs, r⟩ := cell_seq (K := K) rp q (x.get e)
      exact ⟨vs, hs, by rw [← r.len]; exact List.getElem?_eq_none_iff.mp h⟩
theorem ri_tup {K : PySem.W.Frag} {ws : List W} {vs : List V} {a : Addr} (na : a ∉ ρ) (h : H a = some (.tup vs)) (r : RVs G ρ H ws vs) : RI G p ρ H (.tup ws) (Itt K a) where
  yes := fun i w s ρ1 H1 x rp q => by
    have q : ws[i]? = some w := Option.some.inj q
    have h1 := x.keep _ _ na h
    obtain ⟨v, hv, rv⟩ := (r.mono x).get q
    refine ⟨⟨vs, v, SqT.of h1, hv⟩, fun y H2 hy => ?_⟩
    obtain ⟨rfl, hy⟩ := hy
    have e2 := hy vs (SqT.of h1)
    rw [hv] at e2; cases e2
    exact ⟨Ex.rfl', rp, rv⟩
  no := fun i s ρ1 H1 x rp q => by
    have q : ws[i]? = none := Option.some.inj q
    exact ⟨vs, SqT.of (x.keep _ _ na h), by rw [← r.len]; exact List.getElem?_eq_none_iff.mp q⟩
theorem ri_rng {lo : Int} {n : Nat} : RI G p ρ H (.rng lo 1 n) (Itr lo n) where
  yes := fun i w s ρ1 H1 x rp q => by
    simp only [ItD.next] at q
    by_cases hi : i < n
    · rw [if_pos hi] at q
      cases q
      refine ⟨hi, fun y H2 hy => ?_⟩
      obtain ⟨rfl, rfl⟩ := hy
      exact ⟨Ex.rfl', rp, by rw [Int.mul_one]; exact .int _⟩
    · rw [if_neg hi] at q; cases q
  no := fun i s ρ1 H1 x rp q => by
    simp only [ItD.next] at q
    by_cases hi : i < n
    · rw [if_pos hi] at q; cases q
    · exact Nat.le_of_not_lt hi
theorem pair_new {T : Addr} {w1 w2 : W} {x1 x2 : V} (rp : Rep G ρ p s H) (nT : H T = none) (r1 : RV G ρ H w1 x1) (r2 : RV G ρ H w2 x2) : Ex ρ H ρ (upd H T (.tup [x1, x2])) ∧ Rep G ρ p s (upd H T (.tup [x1, x2])) ∧ RV G ρ (upd H T (.tup [x1, x2])) (.tup [w1, w2]) (.ref T) :=
  have x := Ex.fresh (u := .tup [x1, x2]) rp nT
  ⟨x, rp.fresh nT, .tup (rp.ref_none nT) upd_same (.cons (r1.mono x) (.cons (r2.mono x) .nil))⟩
theorem ri_enl {K : PySem.W.Frag} {n : Nat} {a : Addr} (e : ρ[n]? = some a) : RI G p ρ H (.enl n) (Ite K a) where
  yes := fun i w s ρ1 H1 x rp h => by
    simp only [ItD.next] at h
    cases q : cellItems p s n with
    | none => rw [q] at h; cases h
    | some ws =>
      rw [q] at h
      have h : ws[i]?.map (fun w => W.tup [.int (i : Nat), w]) = some w := Option.some.inj h
      cases q2 : ws[i]? with
      | none => rw [q2] at h; cases h
      | some w1 =>
        rw [q2] at h
        cases h
        obtain ⟨vs, hs, r⟩ := cell_seq (K := K) rp q (x.get e)
        obtain ⟨v, hv, rv⟩ := r.get q2
        refine ⟨⟨vs, v, hs, hv⟩, fun y H2 hy => ?_⟩
        obtain ⟨T, x1, rfl, nT, rfl, hy⟩ := hy
        have e2 := hy vs hs
        rw [hv] at e2; cases e2
        exact pair_new rp nT (.int _) rv
  no := fun i s ρ1 H1 x rp h => by
    simp only [ItD.next] at h
    cases q : cellItems p s n with
    | none => rw [q] at h; cases h
    | some ws =>
      rw [q] at h
      have h : ws[i]?.map (fun w => W.tup [.int (i : Nat), w]) = none := Option.some.inj h
      obtain ⟨vs, hs, r⟩ := cell_seq (K := K) rp q (x.get e)
      refine ⟨vs, hs, by rw [← r.len]; exact List.getElem?_eq_none_iff.mp (by simpa using h)⟩
variable {tg a b c : Expr} {ma mb mc : Lo → S → R W} {mr : Lo → S → R (List W)} {q' pos tpos : Pos}
theorem PI_or {e : Expr} {t t' : TI} (h : PI X tg e t) (h' : PI X tg e t') : PI X tg e (fun σ H R => t σ H R ∨ t' σ H R) := ⟨fun pins s σ H Q I w => w.elim (h.run pins s σ H Q I) (h'.run pins s σ H Q I)⟩
theorem si_seq (ha : SE G p E X a ma) : SI G p E X tg a (iSeq ma p) :=
  PI_imp (PI_or (pi_list ha) (pi_tup ha)) fun σ H R ⟨ρ, l, s, rl, rp, h⟩ => by
    unfold iSeq at h
    cases e : ma l s with
    | bad => rw [e] at h; exact h.elim
    | exc c w s1 =>
      refine .inl ⟨ρ, l, s, rl, rp, ?_⟩
      rw [e] at h ⊢
      exact h
    | ok w s1 =>
      rw [e] at h
      simp only [CC.R.bind] at h
      cases w with
      | ref n =>
        dsimp only at h
        cases q : cellItems p s1 n with
        | none => rw [q] at h; exact h.elim
        | some ws =>
          rw [q] at h
          refine .inl ⟨ρ, l, s, rl, rp, ?_⟩
          rw [e]
          refine fun ρ1 H1 v x1 rp1 rv => ?_
          cases rv with
          | ref e1 =>
            obtain ⟨vs, hs, _⟩ := cell_seq (K := X.K) rp1 q e1
            exact ⟨_, rfl, ⟨vs, hs⟩, h ρ1 H1 _ x1 rp1 (ri_lst e1)⟩
      | tup ws =>
        refine .inr ⟨ρ, l, s, rl, rp, ?_⟩
        rw [e]
        refine fun ρ1 H1 v x1 rp1 rv => ?_
        cases rv with
        | tup na h1 r => exact ⟨_, rfl, ⟨_, SqT.of h1⟩, h ρ1 H1 _ x1 rp1 (ri_tup na h1 r)⟩
      | _ => exact h.elim
def b62 (i : Int) : Bool := decide (-(2 ^ 62) ≤ i) && decide (i < 2 ^ 62)
theorem b62_ok {i : Int} (h : b62 i = true) : -(2 ^ 62) ≤ i ∧ i < 2 ^ 62 := by
  unfold b62 at h
  obtain ⟨a, b⟩ := Bool.and_eq_true_iff.mp h
  exact ⟨of_decide_eq_true a, of_decide_eq_true b⟩
def iRange1 (ma : Lo → S → R W) : Lo → S → R ItD := fun l s => (ma l s).bind fun w s1 => match w with
  | .int j => if b62 j then .ok (.rng 0 1 j.toNat) s1 else .bad
  | _ => .bad
theorem pa1 (ha : SE G p E X a ma) (hs : starEach (a :: []) X.env = (false, eval a X.env) :: starEach [] X.env := by rfl) : PA X [a] (tCons (tI G p E ma) tNil) := pa_cons ha pa_nil hs
theorem si_range1 (hm : X.mg "range" = none) (ha : SE G p E X a ma) (hg : Gl X "range" := by rfl) (hs : starEach [a] X.env = [(false, eval a X.env)] := by rfl) (hs2 : starEach (a :: []) X.env = (false, eval a X.env) :: starEach [] X.env := by rfl) : SI G p E X tg (.Call (.Name "range" q') [a] [] pos) (iRange1 ma) :=
  PI_imp (pi_range1 hg hm (pa1 ha hs2) hs) fun σ H R' ⟨ρ, l, s, rl, rp, h⟩ => by
    unfold iRange1 at h
    refine ⟨ρ, l, s, rl, rp, PoA.bind h fun w s1 ρ1 H1 v x1 rp1 rv1 h1 => ?_⟩
    cases rv1 with
    | int j =>
      dsimp only at h1
      split at h1
      · rename_i hb
        obtain ⟨b1, b2⟩ := b62_ok hb
        exact ⟨j, rfl, b1, b2, h1 ρ1 H1 _ Ex.rfl' rp1 ri_rng⟩
      · exact h1.elim
    | _ => exact h1.elim
variable {g : W → Lo → S → OG} {m mb' : Lo → S → RS} {mi : Lo → S → R ItD} {ta : Lo → S → R Bool}
def forI (p : Hh) (g : W → Lo → S → OG) (b : Lo → S → RS) (d : ItD) : Nat → Nat → Lo → S → RS
  | 0, _, _, _ => .bad
  | k + 1, i, l, s => match d.next p s i with
    | none => .bad
    | some none => .nx l s
    | some (some w) => match g w l s with
      | none => .bad
      | some (l1, s1) => match b l1 s1 with
        | .nx l2 s2 => forI p g b d k (i + 1) l2 s2
        | .ct l2 s2 => forI p g b d k (i + 1) l2 s2
        | .brk l2 s2 => .nx l2 s2
        | r => r
def sFor (p : Hh) (g : W → Lo → S → OG) (mi : Lo → S → R ItD) (b : Lo → S → RS) : Lo → S → RS := fun l s => match mi l s with
  | .ok d s1 => forI p g b d (d.cnt p s1 + 1) 0 l s1
  | .exc c w s1 => .exc c w l s1
  | .bad => .bad
theorem ss_for {iter : Expr} {body : List Stmt} {k : Nat} (cn : Cn X E k) (hi : SI G p E X tg iter mi) (hg : SG G p X tg g) (hb : SB G p E X body m) (hs : ∀ x, foldedSetIterable iter X.env x = pure x := by intro _; rfl) : SS G p E X (.For tg iter body [] pos) (sFor p g mi m) :=
  PS_imp (ps_for cn.own cn.calm hi hg hb hs) fun D σ H ⟨ρ, l, s, rl, rp, h⟩ => ⟨ρ, l, s, rl, rp, by
    unfold sFor at h
    cases e : mi l s with
    | bad => rw [e] at h; exact h.elim
    | exc c w s1 => rw [e] at h; exact fun ρ' H' d x y z => h ρ' H' d σ x y z (rl.mono x)
    | ok d s1 =>
      rw [e] at h
      dsimp only at h
      refine fun ρ0 H0 J x0 rp0 ri => ⟨fun i n σ' H' => ∃ ρ' l' s', Ex ρ0 H0 ρ' H' ∧ RL G ρ' H' l' σ' ∧ Rep G ρ' p s' H' ∧ PoS G p ρ' H' (forI p g m d n i l' s') D E, ⟨_, ρ0, l, s1, Ex.rfl', rl.mono x0, rp0, PoS.base h x0⟩, ?_⟩
      rintro i n σ1 H1 ⟨ρ1, l1, s2, x1, rl1, rp1, h1⟩
      cases n with
      | zero => exact h1.elim
      | succ n =>
        unfold forI at h1
        cases q : d.next p s2 i with
        | none => rw [q] at h1; exact h1.elim
        | some o =>
          rw [q] at h1
          cases o with
          | none => exact .inl ⟨ri.no i s2 ρ1 H1 x1 rp1 q, h1 ρ1 H1 σ1 Ex.rfl' rp1 rl1⟩
          | some w =>
            obtain ⟨go, yl⟩ := ri.yes i w s2 ρ1 H1 x1 rp1 q
            refine .inr ⟨go, fun σ' H' => ∃ ρ' l' s', Ex ρ0 H0 ρ' H' ∧ RL G ρ' H' l' σ' ∧ Rep G ρ' p s' H' ∧ PoS G p ρ' H' (forI p g m d n (i + 1) l' s') D E, fun σ' H' z => ⟨n, Nat.lt_succ_self n, z⟩, fun v H2 y => ?_⟩
            obtain ⟨x2, rp2, rv⟩ := yl v H2 y
            dsimp only at h1
            refine ⟨ρ1, l1, s2, w, rl1.mono x2, rp2, rv, ?_⟩
            cases q2 : g w l1 s2 with
            | none => rw [q2] at h1; exact h1.elim
            | some z =>
              obtain ⟨l3, s3⟩ := z
              rw [q2] at h1
              dsimp only at h1
              refine fun ρ3 H3 σ3 x3 rp3 rl3 => ⟨ρ3, l3, s3, rl3, rp3, ?_⟩
              have h1 := PoS.base h1 (x2.trans x3)
              cases q3 : m l3 s3 with
              | nx l4 s4 => rw [q3] at h1; exact fun ρ4 H4 σ4 x4 rp4 rl4 => ⟨ρ4, l4, s4, ((x1.trans x2).trans x3).trans x4, rl4, rp4, PoS.base h1 x4⟩
              | ct l4 s4 => rw [q3] at h1; exact fun ρ4 H4 σ4 x4 rp4 rl4 => ⟨ρ4, l4, s4, ((x1.trans x2).trans x3).trans x4, rl4, rp4, PoS.base h1 x4⟩
              | brk l4 s4 => rw [q3] at h1; exact h1
              | ret w4 s4 => rw [q3] at h1; exact h1
              | exc c w4 l4 s4 => rw [q3] at h1; exact h1
              | bad => rw [q3] at h1; exact h1⟩
end
end CC
set_option Elab.async false
set_option linter.all false
set_option maxRecDepth 100000
namespace CC
open PySem PySem.Spec PyProof.Rows L2
structure FnG (P : Program) (w : World) (K : PySem.W.Frag) (mg : Str → Option Value) (base : Heap) (k : Nat) (f : Addr) (fd : FuncData) (ps : List Str) (sp : Sp) : Prop where
  len : ∀ vs H Q E, sp vs H Q E → vs.length = ps.length
  run : ∀ (A : Around) (outer : List Env) (s : Shared) (H : Hp) (args : Args) (us : List Value) (vs : List V) (Q : VK) (E : XK), Room k A → A.guards = some [] → Env0 P w K mg base A outer s H → BindsTo s fd args (ps.zip us) → Vals vs us → sp vs H Q E →
    codeAny (model P w) A (.call (.ref f) args) (CR (L2.CX P w) outer P w H s Q E) s
section
variable {P : Program} {w : World} {K : PySem.W.Frag} {mg : Str → Option Value} {base : Heap} {k : Nat} {f : Addr} {fd : FuncData} {ps : List Str} {sp : Sp}
theorem FnG.mono {j : Nat} (F : FnG P w K mg base j f fd ps sp) (h : j ≤ k) : FnG P w K mg base k f fd ps sp :=
  ⟨F.len, fun A outer s H args us vs Q E hr hg => F.run A outer s H args us vs Q E (hr.mono h) hg⟩
theorem fnG_of {name qual : Str} {params : Arguments} {body : List Stmt} {scope : Scope} {dV kV doc pm cdv ct oc : Value} {an od : Option Addr} {osl : Array (Option Value)} {N : List Str}
    (lk : K.lookup f = some ⟨oc, od, .func (PySem.W.fnOf name qual params body scope dV kV doc pm an cdv ct), osl⟩) (hcd : PySem.W.codeIn K cdv qual = true) (sc : FnScope N ps scope) (len : ∀ vs H Q E, sp vs H Q E → vs.length = ps.length)
    (hb : ∀ (A : Around) (outer : List Env) (s : Shared) (H : Hp) (vs : List V) (Q : VK) (E : XK), Room k (A.deeper (envOfC qual scope s.heap.objs.size f cdv)) → A.guards = some [] → sp vs H Q E →
      ∃ t, PSs (cxOf (L2.CX P w) P w K mg base N qual scope f cdv A outer s H E) body t ∧ t { nx := fun _ H' => Q .non H', rt := Q } (L2.start N vs) H) :
    FnG P w K mg base (k + 1) f (PySem.W.fnOf name qual params body scope dV kV doc pm an cdv ct) ps sp := by
  refine ⟨len, fun A outer s H args us vs Q E room hgd e0 bnd rel hsp => ?_⟩
  have lenv := len _ _ _ _ hsp
  have kIn : K.In s.heap := e0.mod.kin.keeps fun b o e => (e0.bs b o e).1
  have noLim : s.heap.NoLimit := e0.mod.nolimit.keeps fun b o e => (e0.bs b o e).1
  have kinds : ∀ y ∈ ps.zip us, scope.names.lookup y.1 = some .local ∨ (scope.names.lookup y.1 = some .cell ∧ ((cellsFrom (s.heap.objs.size + 1) scope.names []).lookup y.1).isSome = true) := by
    rintro ⟨n, v⟩ hy
    rcases sc.par n (List.of_mem_zip hy).1 with q | q
    · exact .inl q
    · exact .inr ⟨q, PySem.W.cellsFrom_some _ _ _ (.inl q)⟩
  refine codeAny_call_function room.depth (kIn _ _ lk) rfl sc.co sc.gen rfl (PySem.W.codeRec_of kIn hcd) (bnd _ _ _ _ ?_)
  refine wpAny_newFunctionEnv_cells sc.kind kinds fun env he s1 x => ?_
  subst he
  refine ⟨noLim.keeps x.toInCall.keep, codeAny_func ?_⟩
  obtain ⟨t, ht, hq⟩ := hb A outer s H vs Q E (room.deeper _) hgd hsp
  have I : Inv (cxOf (L2.CX P w) P w K mg base N qual scope f cdv A outer s H E) [] (L2.start N vs) H s1 := inv_start sc room.hd e0 lenv rel x
  refine wpAny_mono (ht.run [] s1 (L2.start N vs) H _ I hq) (fun fl s' hs => ?_) fun _ _ hs => hs
  cases fl with
  | ret u =>
    obtain ⟨v, σ', H', J, rv, q⟩ := hs
    exact ⟨v, H', J.os, J.bare, J.base, J.hok, rv, q⟩
  | next =>
    obtain ⟨σ', H', J, q⟩ := hs
    exact ⟨.non, H', J.os, J.bare, J.base, J.hok, rfl, q⟩
  | brk =>
    obtain ⟨_, _, _, q⟩ := hs
    exact q.elim
  | cont =>
    obtain ⟨_, _, _, q⟩ := hs
    exact q.elim
end
section
variable {X : Cx} {k : Nat} {f C : Addr} {fd : FuncData} {ps : List Str} {sp : Sp} {dvs : List V} {ds : List Value} {E : L2.St → XK} {x : Str} {p pos : Pos} {e : Expr} {es : List Expr} {t : TA}
theorem run_fnG {pins : List (Addr × Obj)} {σ : L2.St} {H : Hp} {s : Shared} {Q : VK} {us : List Value} {vs : List V} (F : FnG X.prog X.w X.K X.mg X.base k f fd ps sp) (hr : Room k X.A) (hg : X.A.guards = some []) (hb : Binds X.K fd ps ds) (hd : Vals dvs ds) (hx : PassesAt (L2.CX X.prog X.w) X σ (E σ))
    (I : Inv X pins σ H s) (r : Vals vs us) (h : sp (vs ++ dvs) H Q (E σ)) : wpAny (model X.prog X.w) X.A (call (.ref f) us) (EP X pins σ Q) X.xe s := by
  have rr : Vals (vs ++ dvs) (us ++ ds) := r.append hd
  have ln : (us ++ ds).length = ps.length := by rw [← rr.length]; exact F.len _ _ _ _ h
  have go := F.run X.A X.stack s H ⟨us, []⟩ (us ++ ds) (vs ++ dvs) Q (E σ) hr hg I.env0 (hb s us I.kIn ln) rr h
  refine wpAny_call (codeAny_mono go fun r s' hq => ?_)
  match r, hq with
  | .error e, hq => exact hx pins H s e s' I hq
  | .ok (.ret u), hq => exact I.after hq
  | .ok .next, hq => exact hq.elim
  | .ok .brk, hq => exact hq.elim
  | .ok .cont, hq => exact hq.elim
theorem pe_callG (F : FnG X.prog X.w X.K X.mg X.base k f fd ps sp) (hr : Room k X.A) (hgd : X.A.guards = some []) (hg : Gl X x) (hm : X.mg x = some (.ref f)) (hk : PySem.W.keepIn X.K (.ref f) = true) (hb : Binds X.K fd ps ds) (hd : Vals dvs ds) (hx : ∀ σ, PassesAt (L2.CX X.prog X.w) X σ (E σ))
    (ha : PA X (e :: es) t) (hdb : (x == ("__debug__" : Str)) = false) (he : starEach (e :: es) X.env = (false, eval e X.env) :: starEach es X.env) (hpl : (backTo pos (starEach es X.env)).any (·.1) = false) :
    PE X (.Call (.Name x p) (e :: es) [] pos) (tCallSD sp dvs E t) := by
  refine ⟨fun pins s σ H Q I h => wpAny_Call_Name_kw (ld_glob I hg hm ?_ hdb)⟩
  refine PySem.W.callWith_K (h₀ := X.base) I.ok.mod.kin hk (thn (ha.run pos pins s σ H _ I h) ?_) he hpl
  rintro us s1 ⟨vs, H1, I1, r, q⟩
  exact ⟨I1.kIn, run_fnG F hr hgd hb hd (hx σ) I1 r q⟩
end
end CC
set_option Elab.async false
set_option linter.all false
set_option maxRecDepth 100000
namespace CC
open PySem PySem.Spec PyProof.Rows L2
def gcS (n : Nat) (w : W) (s : S) : Option (W × S) := some (w, s)
def fnI (np N : Nat) (b : Hh → Lo → S → RS) : Hh → List W → R W := fun p ws => if ws.length = np then fnB N b p ws else .bad
  where
  fnB (N : Nat) (b : Hh → Lo → S → RS) (p : Hh) (ws : List W) : R W := match b p (ws.map some ++ List.replicate (N - ws.length) none) ⟨[], []⟩ with
  | .ret w s => R.ofO (gcS p.length w s)
  | .nx _ s => R.ofO (gcS p.length .non s)
  | .exc c w _ s => (match gcS p.length w s with
    | some (w', s') => .exc c w' s'
    | none => .bad)
  | _ => .bad
theorem gc_ok {G : GE} {p : Hh} {ρ : List Addr} {H : Hp} {ρ0 : List Addr} {H0 : Hp} {s s' : S} {w w' : W} (rp0 : Rep G ρ0 p ⟨[], []⟩ H0) (x : Ex ρ0 H0 ρ H) (rp : Rep G ρ p s H) (h : gcS p.length w s = some (w', s')) :
    ∃ ρ', Ex ρ0 H0 ρ' H ∧ Rep G ρ' p s' H ∧ (∀ v, RV G ρ H w v → RV G ρ' H w' v) ∧ ∀ a, a ∈ ρ' → a ∈ ρ := by
  cases h
  exact ⟨ρ, x, rp, fun _ h => h, fun _ h => h⟩
def spI (G : GE) (F : Hh → List W → R W) : Sp := fun vs H Q E => ∃ ρ p ws, RVs G ρ H ws vs ∧ Rep G ρ p ⟨[], []⟩ H ∧ PoV G p ρ H (F p ws) Q E
theorem fnI_len {G : GE} {p : Hh} {ρ : List Addr} {H : Hp} {np N : Nat} {b : Hh → Lo → S → RS} {ws : List W} {Q : VK} {E : XK} (h : PoV G p ρ H (fnI np N b p ws) Q E) : ws.length = np ∧ PoV G p ρ H (fnI.fnB N b p ws) Q E := by
  unfold fnI at h
  split at h
  · rename_i hl; exact ⟨hl, h⟩
  · exact h.elim
theorem start_rl {G : GE} {ρ : List Addr} {H : Hp} {ws : List W} {vs : List V} {N : List Str} (r : RVs G ρ H ws vs) (hj : G.J ρ (L2.start N vs) H) : RL G ρ H (ws.map some ++ List.replicate (N.length - ws.length) none) (L2.start N vs) := by
  refine ⟨by unfold L2.start; simp [r.len], fun i w e => ?_, hj⟩
  unfold L2.start
  by_cases hi : i < ws.length
  · rw [List.getElem?_append_left (by simpa using hi), List.getElem?_map] at e
    cases q : ws[i]? with
    | none => rw [q] at e; cases e
    | some w' =>
      rw [q] at e
      cases e
      obtain ⟨v, h1, h2⟩ := r.get q
      refine ⟨v, ?_, h2⟩
      rw [List.getElem?_append_left (by rw [List.length_map, ← r.len]; exact hi), List.getElem?_map, h1]
      rfl
  · rw [List.getElem?_append_right (by simpa using Nat.le_of_not_lt hi)] at e
    have e' := List.mem_of_getElem? e
    have := List.eq_of_mem_replicate e'
    cases this
theorem RX.less {G : GE} {ρ ρ' : List Addr} {H : Hp} {c : Nat} {w w' : W} {d : Option Addr} (sub : ∀ a, a ∈ ρ' → a ∈ ρ) (h : ∀ v, RV G ρ H w v → RV G ρ' H w' v) (r : RX G ρ H c w d) : RX G ρ' H c w' d := by
  unfold RX at *
  split
  · trivial
  · rename_i f hf
    rw [hf] at r
    obtain ⟨dd, v, e1, n, e2, q⟩ := r
    exact ⟨dd, v, e1, fun m => n (sub _ m), e2, h v q⟩
theorem fnI_ok {G : GE} {p : Hh} {ρ : List Addr} {H : Hp} {N : Nat} {b : Hh → Lo → S → RS} {ws : List W} {Q : VK} {E : XK} (rp : Rep G ρ p ⟨[], []⟩ H) (h : PoV G p ρ H (fnI.fnB N b p ws) Q E) :
    PoS G p ρ H (b p (ws.map some ++ List.replicate (N - ws.length) none) ⟨[], []⟩) { nx := fun _ H' => Q .non H', rt := Q } (fun c d _ H' => E c d H') := by
  unfold fnI.fnB at h
  cases e : b p (ws.map some ++ List.replicate (N - ws.length) none) ⟨[], []⟩ with
  | ret w s =>
    rw [e] at h
    intro ρ1 H1 v x rp1 rv
    dsimp only at h
    cases q : gcS p.length w s with
    | none => rw [q] at h; exact h.elim
    | some z =>
      obtain ⟨w', s'⟩ := z
      rw [q] at h
      obtain ⟨ρ', x', rp', hv, _⟩ := gc_ok rp x rp1 q
      exact h ρ' H1 v x' rp' (hv v rv)
  | nx l s =>
    rw [e] at h
    intro ρ1 H1 v x rp1 rv
    dsimp only at h
    cases q : gcS p.length .non s with
    | none => rw [q] at h; exact h.elim
    | some z =>
      obtain ⟨w', s'⟩ := z
      rw [q] at h
      obtain ⟨ρ', x', rp', hv, _⟩ := gc_ok rp x rp1 q
      exact h ρ' H1 _ x' rp' (hv _ .non)
  | exc c w l s =>
    rw [e] at h
    intro ρ1 H1 d σ' x rp1 rx rl
    dsimp only at h
    cases q : gcS p.length w s with
    | none => rw [q] at h; exact h.elim
    | some z =>
      obtain ⟨w', s'⟩ := z
      rw [q] at h
      obtain ⟨ρ', x', rp', hv, sub⟩ := gc_ok rp x rp1 q
      exact h ρ' H1 d x' rp' (rx.less sub hv)
  | brk l s => rw [e] at h; exact h.elim
  | ct l s => rw [e] at h; exact h.elim
  | bad => rw [e] at h; exact h.elim
section
variable {P : Program} {w : World} {K : PySem.W.Frag} {mg : Str → Option Value} {base : Heap} {G : GE}
abbrev XOf (P : Program) (w : World) (K : PySem.W.Frag) (mg : Str → Option Value) (base : Heap) (N : List Str) (qual : Str) (sc : Scope) (f : Addr) (cdv : Value) (A : Around) (outer : List Env) (s : Shared) (H : Hp) (E : XK) : Cx :=
  cxOf (L2.CX P w) P w K mg base N qual sc f cdv A outer s H E
theorem cn_of {N : List Str} {qual : Str} {sc : Scope} {f : Addr} {cdv : Value} {A : Around} {outer : List Env} {s : Shared} {H : Hp} {E : XK} {k : Nat} (nd : N.Nodup) (hr : Room k (A.deeper (envOfC qual sc s.heap.objs.size f cdv))) (hg : A.guards = some []) :
    Cn (XOf P w K mg base N qual sc f cdv A outer s H E) (fun c d _ H' => E c d H') k :=
  ⟨rfl, hr, takes_of rfl rfl rfl rfl, passes_of rfl, nd, hg⟩
theorem fn_ok (hJ : ∀ ρ σ H, G.J ρ σ H) {x qual : Str} {st : Stmt} {f : Addr} {fd : FuncData} {N ps : List Str} {k : Nat} {b : Hh → Lo → S → RS} (F : Fun K x qual st f fd) (sc : FnScope N ps (defScope st))
    (hb : ∀ (cdv : Value) (A : Around) (outer : List Env) (s : Shared) (H : Hp) (E : XK) (p : Hh), Cn (XOf P w K mg base N qual (defScope st) f cdv A outer s H E) (fun c d _ H' => E c d H') k →
      SB G p (fun c d _ H' => E c d H') (XOf P w K mg base N qual (defScope st) f cdv A outer s H E) (defBody st) (b p)) :
    FnG P w K mg base (k + 1) f fd ps (spI G (fnI ps.length N.length b)) := by
  obtain ⟨oc, od, kV, doc, pm, an, cdv, ct, osl, rfl, lk, hcd⟩ := F.ex
  refine fnG_of lk hcd sc (fun vs H Q E h => ?_) fun A outer s H vs Q E hr hg h => ?_
  · obtain ⟨ρ, p, ws, rv, rp, h⟩ := h
    rw [← rv.len]; exact (fnI_len h).1
  obtain ⟨ρ, p, ws, rv, rp, h⟩ := h
  exact ⟨_, hb cdv A outer s H E p (cn_of sc.nd hr hg), ρ, _, _, start_rl rv (hJ _ _ _), rp, fnI_ok rp (fnI_len h).2⟩
theorem fn_okD (hJ : ∀ ρ σ H, G.J ρ σ H) {x qual : Str} {st : Stmt} {f : Addr} {fd : FuncData} {N ps : List Str} {k : Nat} {b : Hh → Lo → S → RS} {dvs : List V} {kws : List (Str × V)} (F : FunD K x qual (defArgs st) (defBody st) (defScope st) dvs kws f fd) (sc : FnScope N ps (defScope st))
    (hb : ∀ (cdv : Value) (A : Around) (outer : List Env) (s : Shared) (H : Hp) (E : XK) (p : Hh), Cn (XOf P w K mg base N qual (defScope st) f cdv A outer s H E) (fun c d _ H' => E c d H') k →
      SB G p (fun c d _ H' => E c d H') (XOf P w K mg base N qual (defScope st) f cdv A outer s H E) (defBody st) (b p)) :
    FnG P w K mg base (k + 1) f fd ps (spI G (fnI ps.length N.length b)) := by
  obtain ⟨oc, od, dV, kV, doc, pm, an, cdv, ct, osl, rfl, lk, hcd, _, _⟩ := F.ex
  refine fnG_of lk hcd sc (fun vs H Q E h => ?_) fun A outer s H vs Q E hr hg h => ?_
  · obtain ⟨ρ, p, ws, rv, rp, h⟩ := h
    rw [← rv.len]; exact (fnI_len h).1
  obtain ⟨ρ, p, ws, rv, rp, h⟩ := h
  exact ⟨_, hb cdv A outer s H E p (cn_of sc.nd hr hg), ρ, _, _, start_rl rv (hJ _ _ _), rp, fnI_ok rp (fnI_len h).2⟩
end
end CC
set_option Elab.async false
set_option linter.all false
set_option maxRecDepth 100000
namespace CC
open PySem PySem.Spec PyProof.Rows L2
section
variable {G : GE} {p : Hh} {ρ : List Addr} {H : Hp} {s : S}
theorem rep_mat (rp : Rep G ρ p s H) : Rep G ρ (mat p s) ⟨[], []⟩ H :=
  ⟨by rw [rp.len]; show _ = (mat p s).length + 0; rw [mat_len]; rfl, rp.nd, fun n o h => rp.has n o (by rw [← rd_mat]; exact h)⟩
theorem rep_mrg {s' : S} (rp : Rep G ρ (mat p s) s' H) : Rep G ρ p (mrg p s s') H :=
  ⟨by rw [rp.len, nxt_mrg], rp.nd, fun n o h => rp.has n o (by rw [← rd_mrg]; exact h)⟩
theorem callF_ok {F : Hh → List W → R W} {xs : List W} {vs : List V} {Q : VK} {E : XK} (rv : RVs G ρ H xs vs) (rp : Rep G ρ p s H) (h : PoV G p ρ H (callF F p xs s) Q E) : ∃ ρc pc ws, RVs G ρc H ws vs ∧ Rep G ρc pc ⟨[], []⟩ H ∧ PoV G pc ρc H (F pc ws) Q E := by
  refine ⟨ρ, mat p s, xs, rv, rep_mat rp, ?_⟩
  unfold callF at h
  cases q : F (mat p s) xs with
  | bad => rw [q] at h; exact h
  | ok w s' =>
    rw [q] at h
    intro ρ' H' v x rp' rv'
    exact h ρ' H' v x (rep_mrg rp') rv'
  | exc c w s' =>
    rw [q] at h
    intro ρ' H' d x rp' rx
    exact h ρ' H' d x (rep_mrg rp') rx
end
end CC
set_option Elab.async false
set_option linter.all false
set_option maxRecDepth 100000
namespace CC
open PySem PySem.Spec PyProof.Rows L2
section
variable {G : GE} {p : Hh} {E : WX} {X : Cx} {k np : Nat} {pos p' apos : Pos} {a o : Expr} {es : List Expr} {mo : Lo → S → R W} {mr : Lo → S → R (List W)} {Fm : Hh → List W → R W} {f C : Addr} {fd : FuncData} {ps : List Str} {x : Str} {dvs : List V} {dws : List W} {ds : List Value}
structure FC (G : GE) (P : Program) (w : World) (K : PySem.W.Frag) (mg : Str → Option Value) (base : Heap) (k : Nat) (f : Addr) (Fm : Hh → List W → R W) (dws : List W) : Prop where
  ex : ∃ (fd : FuncData) (ps : List Str) (dvs : List V) (ds : List Value), FnG P w K mg base k f fd ps (spI G Fm) ∧ Binds K fd ps ds ∧ Vals dvs ds ∧ (∀ ρ H, RVs G ρ H dws dvs)
  kp : PySem.W.keepIn K (.ref f) = true
theorem sp_of {ρ : List Addr} {H : Hp} {s : S} {xs : List W} {vs : List V} {Q : VK} {E : XK} (rv : RVs G ρ H xs vs) (rp : Rep G ρ p s H) (h : PoV G p ρ H (callF Fm p xs s) Q E) : spI G Fm vs H Q E := callF_ok rv rp h
theorem se_call (FF : FC G X.prog X.w X.K X.mg X.base k f Fm dws) (cn : Cn X E k) (hm : X.mg x = some (.ref f)) (ha : SA G p E X (a :: es) mr) (hg : Gl X x := by rfl) (hdb : (x == ("__debug__" : Str)) = false := by decide)
    (he : starEach (a :: es) X.env = (false, eval a X.env) :: starEach es X.env := by rfl) (hpl : (backTo pos (starEach es X.env)).any (·.1) = false := by rfl) : SE G p E X (.Call (.Name x p') (a :: es) [] pos) (eCall Fm p dws mr) := by
  obtain ⟨fd, ps, dvs, ds, F, hb, hd, rd⟩ := FF.ex
  exact PE_imp (pe_callG (E := WE E) F cn.room cn.gd hg hm FF.kp hb hd (fun σ => passAt cn.tk σ) ha hdb he hpl) fun σ H Q ⟨ρ, l, s, rl, rp, h⟩ =>
    ⟨ρ, l, s, rl, rp, PoA.bind h fun xs s1 ρ1 H1 vs x1 rp1 rv1 h1 => sp_of (rv1.app (rd ρ1 H1)) rp1 h1⟩
structure CC_ (G : GE) (K : PySem.W.Frag) (c : Nat) : Prop where
  cl : Cls K (G.cls c)
  no : ∀ f ∈ G.fld c, NoAttr K (G.cls c) f
end
end CC
set_option Elab.async false
set_option linter.all false
set_option maxRecDepth 100000
namespace CC
open PySem PySem.Spec PyProof.Rows L2
def lookF (i : Nat) : List (Nat × W) → Option W
  | [] => none
  | (j, w) :: r => if i = j then some w else lookF i r
def putW (i : Nat) (w : W) : List (Nat × W) → List (Nat × W)
  | [] => [(i, w)]
  | (j, u) :: r => if j = i then (j, w) :: r else (j, u) :: putW i w r
def eFld (c i : Nat) (p : Hh) (mo : Lo → S → R W) : Lo → S → R W := fun l s => (mo l s).bind fun o s1 => match o with
  | .ref n => (match rd p s1 n with
    | some (.ins d fs) => if d = c then (match lookF i fs with | some w => .ok w s1 | none => .bad) else .bad
    | _ => .bad)
  | _ => .bad
def sFldA (c i : Nat) (p : Hh) (mo me : Lo → S → R W) : Lo → S → RS := fun l s => (me l s).toS l fun w s1 => (mo l s1).toS l fun o s2 => match o with
  | .ref n => (match rd p s2 n with
    | some (.ins d fs) => if d = c ∧ fs.length < 900 then .nx l (wr p s2 n (.ins c (putW i w fs))) else .bad
    | _ => .bad)
  | _ => .bad
section
variable {G : GE} {p : Hh} {E : WX} {X : Cx} {k : Nat} {pos p' apos pos' : Pos} {a o : Expr} {es : List Expr} {mo ma : Lo → S → R W} {mr : Lo → S → R (List W)} {Fm : Hh → List W → R W} {f C : Addr} {x : Str} {dws : List W} {ρ : List Addr} {H : Hp} {s : S}
end
end CC
set_option Elab.async false
set_option linter.all false
set_option maxRecDepth 100000
namespace CC
open PySem PySem.Spec PyProof.Rows L2
inductive CTg where
  | nm (i : Nat) | pr (i j : Nat) | tr (i j k : Nat)
def CTg.slots : CTg → List Nat
  | .nm i => [i]
  | .pr i j => [i, j]
  | .tr i j k => [i, j, k]
def CTg.tg (K : PySem.W.Frag) : CTg → TG
  | .nm i => gName i
  | .pr i j => gTup K 2 (gCons (gName i) (gCons (gName j) gNil))
  | .tr i j k => gTup K 3 (gCons (gName i) (gCons (gName j) (gCons (gName k) gNil)))
def CTg.bind (w : W) (l : Lo) : CTg → Option Lo
  | .nm i => some (l.set i (some w))
  | .pr i j => (match w with | .tup [a, b] => some ((l.set i (some a)).set j (some b)) | _ => none)
  | .tr i j k => (match w with | .tup [a, b, c] => some (((l.set i (some a)).set j (some b)).set k (some c)) | _ => none)
def wipeL (l : Lo) : List Nat → Lo
  | [] => l
  | v :: vs => (wipeL l vs).set v none
def tTrue : Lo → S → R Bool := fun _ s => .ok true s
def lcI (p : Hh) (ct : CTg) (t : Lo → S → R Bool) (e : Lo → S → R W) (d : ItD) (n : Nat) : Nat → Nat → Lo → S → R W
  | 0, _, _, _ => .bad
  | k + 1, i, l, s => match d.next p s i with
    | none => .bad
    | some none => .ok (.ref n) s
    | some (some w) => match ct.bind w l with
      | none => .bad
      | some l1 => match t l1 s with
        | .ok false s1 => lcI p ct t e d n k (i + 1) l s1
        | .ok true s1 => (match e l1 s1 with
          | .ok y s2 => (match rd p s2 n with
            | some (.lst acc) => if acc.length ≤ 1000000 then lcI p ct t e d n k (i + 1) l (wr p s2 n (.lst (acc ++ [y]))) else .bad
            | _ => .bad)
          | _ => .bad)
        | _ => .bad
def eLc (p : Hh) (ct : CTg) (mi : Lo → S → R ItD) (t : Lo → S → R Bool) (e : Lo → S → R W) : Lo → S → R W := fun l s => (mi l s).bind fun d s1 =>
  lcI p ct t e d (nxt p s1) (d.cnt p s1 + 1) 0 (wipeL l ct.slots) (al s1 (.lst []))
section
variable {G : GE} {p : Hh} {E : WX} {X : Cx} {k : Nat} {pos pos' : Pos} {ρ : List Addr} {H : Hp} {s : S} {l : Lo} {σ : L2.St}
abbrev E0 : WX := fun _ _ _ _ => False
theorem wipe_rl (r : RL G ρ H l σ) : ∀ vs : List Nat, (∀ i ∈ vs, G.hold ≠ some i) → RL G ρ H (wipeL l vs) (wipe σ vs)
  | [], _ => r
  | v :: vs, h => (wipe_rl r vs fun i m => h i (List.mem_cons_of_mem _ m)).delσ v (h v (List.mem_cons_self ..))
theorem ct_bind {K : PySem.W.Frag} {ct : CTg} {w : W} {v : V} {l1 : Lo} {Q : L2.St → Hp → Prop} (nd : ct.slots.Nodup) (hh : ∀ i ∈ ct.slots, G.hold ≠ some i) (rl : RL G ρ H l σ) (rv : RV G ρ H w v) (h : ct.bind w (wipeL l ct.slots) = some l1) (hq : ∀ σ2, RL G ρ H l1 σ2 → wipe σ2 ct.slots = wipe σ ct.slots → Q σ2 H) : ct.tg K v (wipe σ ct.slots) H Q := by
  have r0 := wipe_rl rl ct.slots hh
  cases ct with
  | nm i =>
    cases h
    refine hq _ (r0.set i rv (hh _ (by simp [CTg.slots]))) ?_
    simp [CTg.slots, wipe, List.set_set]
  | pr i j =>
    cases rv with
    | @tup a ws vs na ha r =>
      match ws, vs, r, h with
      | [], _, _, h => cases h
      | [_], _, _, h => cases h
      | _ :: _ :: _ :: _, _, _, h => cases h
      | [w1, w2], _, .cons r1 (.cons r2 .nil), h =>
        cases h
        have hij : i ≠ j := by simpa [CTg.slots] using nd
        refine ⟨a, _, rfl, SqT.of ha, rfl, _, _, rfl, _, _, rfl, rfl, hq _ ((r0.set i r1 (hh _ (by simp [CTg.slots]))).set j r2 (hh _ (by simp [CTg.slots]))) ?_⟩
        apply List.ext_getElem?
        intro m
        simp only [CTg.slots, wipe, List.getElem?_set, List.length_set]
        by_cases h1 : i = m <;> by_cases h2 : j = m <;> simp_all
    | _ => cases h
  | tr i j k =>
    cases rv with
    | @tup a ws vs na ha r =>
      match ws, vs, r, h with
      | [], _, _, h => cases h
      | [_], _, _, h => cases h
      | [_, _], _, _, h => cases h
      | _ :: _ :: _ :: _ :: _, _, _, h => cases h
      | [w1, w2, w3], _, .cons r1 (.cons r2 (.cons r3 .nil)), h =>
        cases h
        have hd : (i ≠ j ∧ i ≠ k) ∧ j ≠ k := by simpa [CTg.slots] using nd
        obtain ⟨⟨hij, hik⟩, hjk⟩ := hd
        refine ⟨a, _, rfl, SqT.of ha, rfl, _, _, rfl, _, _, rfl, _, _, rfl, rfl, hq _ (((r0.set i r1 (hh _ (by simp [CTg.slots]))).set j r2 (hh _ (by simp [CTg.slots]))).set k r3 (hh _ (by simp [CTg.slots]))) ?_⟩
        apply List.ext_getElem?
        intro m
        simp only [CTg.slots, wipe, List.getElem?_set, List.length_set]
        by_cases h1 : i = m <;> by_cases h2 : j = m <;> by_cases h3 : k = m <;> simp_all
    | _ => cases h
theorem cn_blk {s : Shared} {H : Hp} {scope : Scope} {ce : Env} {fp : List Addr} (cn : Cn X E k) : Cn (X.blk s H scope ce fp) E0 k := ⟨cn.calm, cn.room, takes0, PassesOwn.never, cn.nd, cn.gd⟩
def STs (G : GE) (p : Hh) (E : WX) (X : Cx) (ifs : List Expr) (m : Lo → S → R Bool) : Prop := PTs X ifs (tT G p E m)
theorem sts_nil : STs G p E X [] tTrue := ⟨fun pins s σ H Q I ⟨ρ, l, s0, rl, rp, h⟩ => pts_nil.run pins s σ H Q I (h ρ H true Ex.rfl' rp rfl)⟩
theorem sts_one {c : Expr} {m : Lo → S → R Bool} (h : ST G p E X c m) : STs G p E X [c] m := ⟨fun pins s σ H Q I w => (pts_one h).run pins s σ H Q I w⟩
variable {elt tg iter : Expr} {ifs : List Expr} {scope : Scope} {own : List (Str × Nat)} {ct : CTg} {mi : Lo → S → R ItD} {mt : Lo → S → R Bool} {me : Lo → S → R W}
theorem lc_way {J : It} {D : Addr} {d : ItD} {Q : VK} {E1 : XK} {tgg : TG} (nd : ct.slots.Nodup) (hh : ∀ i ∈ ct.slots, G.hold ≠ some i) {ρ0 : List Addr} {H0 : Hp} (ri : RI G p ρ0 H0 d J) (rl0 : RL G ρ0 H0 l σ) {s0 : S} (rp0 : Rep G ρ0 p s0 H0) (hD : H0 D = none)
    (h : PoV G p ρ0 H0 (lcI p ct mt me d (nxt p s0) (d.cnt p s0 + 1) 0 (wipeL l ct.slots) (al s0 (.lst []))) Q E1) :
    ∃ Wn : Nat → Nat → Hp → Prop, (∃ m, Wn 0 m (upd H0 D (.lst []))) ∧ ∀ i m H, Wn i m H →
      (J.stop i H ∧ Q (.ref D) H) ∨ (J.go i H ∧ ∃ Nx : Hp → Prop, (∀ H', Nx H' → ∃ m', m' < m ∧ Wn (i + 1) m' H') ∧ ∀ x H', J.yld i H x H' → ct.tg X.K x (wipe σ ct.slots) H' fun σ2 H2 => wipe σ2 ct.slots = wipe σ ct.slots ∧ tT G p E0 mt σ2 H2 fun b H3 =>
        if b = true then tI G p E0 me σ2 H3 fun y H4 => ∃ acc, H4 D = some (.lst acc) ∧ acc.length < sizeLine ∧ Nx (upd H4 D (.lst (acc ++ [y]))) else Nx H3) := by
  generalize hn : nxt p s0 = n at h
  generalize d.cnt p s0 + 1 = fuel at h
  obtain ⟨x1, rp1, rv1⟩ := rp0.al_ (o := .lst []) hD (.lst (vs := []) .nil)
  rw [hn] at rv1
  have eD : (ρ0 ++ [D])[n]? = some D := by cases rv1; assumption
  refine ⟨fun i m H => ∃ ρ' s', Ex (ρ0 ++ [D]) (upd H0 D (.lst [])) ρ' H ∧ Rep G ρ' p s' H ∧ PoV G p ρ' H (lcI p ct mt me d n m i (wipeL l ct.slots) s') Q E1, ⟨fuel, _, _, Ex.rfl', rp1, PoA.base h x1⟩, ?_⟩
  rintro i m H1 ⟨ρ1, s1, x2, rp2, h1⟩
  have eD1 := x2.get eD
  cases m with
  | zero => exact h1.elim
  | succ m =>
    unfold lcI at h1
    cases q : d.next p s1 i with
    | none => rw [q] at h1; exact h1.elim
    | some o =>
      rw [q] at h1
      cases o with
      | none => exact .inl ⟨ri.no i s1 ρ1 H1 (x1.trans x2) rp2 q, h1 ρ1 H1 _ Ex.rfl' rp2 (.ref eD1)⟩
      | some w =>
        obtain ⟨go, yl⟩ := ri.yes i w s1 ρ1 H1 (x1.trans x2) rp2 q
        refine .inr ⟨go, fun H' => ∃ ρ' s', Ex (ρ0 ++ [D]) (upd H0 D (.lst [])) ρ' H' ∧ Rep G ρ' p s' H' ∧ PoV G p ρ' H' (lcI p ct mt me d n m (i + 1) (wipeL l ct.slots) s') Q E1, fun H' z => ⟨m, Nat.lt_succ_self m, z⟩, fun v H2 y => ?_⟩
        obtain ⟨x3, rp3, rv⟩ := yl v H2 y
        dsimp only at h1
        cases q2 : ct.bind w (wipeL l ct.slots) with
        | none => rw [q2] at h1; exact h1.elim
        | some l1 =>
          rw [q2] at h1
          dsimp only at h1
          refine ct_bind nd hh (((rl0.mono x1).mono x2).mono x3) rv q2 fun σ2 rl2 hw => ⟨hw, ρ1, l1, s1, rl2, rp3, ?_⟩
          have h1 := PoA.base h1 x3
          cases q3 : mt l1 s1 with
          | bad => rw [q3] at h1; exact h1.elim
          | exc _ _ _ => rw [q3] at h1; exact h1.elim
          | ok b s2 =>
            rw [q3] at h1
            intro ρ4 H4 b' x4 rp4 eb
            cases eb
            cases b with
            | false => exact ⟨ρ4, s2, ((x2.trans x3).trans x4), rp4, PoA.base h1 x4⟩
            | true =>
              dsimp only at h1
              refine ⟨ρ4, l1, s2, rl2.mono x4, rp4, ?_⟩
              have h1 := PoA.base h1 x4
              cases q4 : me l1 s2 with
              | bad => rw [q4] at h1; exact h1.elim
              | exc _ _ _ => rw [q4] at h1; exact h1.elim
              | ok yw s3 =>
                rw [q4] at h1
                dsimp only at h1
                intro ρ5 H5 yv x5 rp5 rv5
                have h1 := PoA.base h1 x5
                have eD5 := x5.get (x4.get (x3.get eD1))
                cases q5 : rd p s3 n with
                | none => rw [q5] at h1; exact h1.elim
                | some ob =>
                  rw [q5] at h1
                  obtain ⟨u, hu, ro⟩ := rp5.at q5 eD5
                  cases ro with
                  | @lst ws vs r =>
                    dsimp only at h1
                    by_cases hl : ws.length ≤ 1000000
                    · rw [if_pos hl] at h1
                      refine ⟨vs, hu, by rw [← r.len, sizeLine_eq]; omega, ?_⟩
                      have xx : Ex ρ5 H5 ρ5 (upd H5 D (.lst (vs ++ [yv]))) := ⟨⟨[], by simp⟩, fun _ h n => absurd h n, fun b o nb hb => by
                        have ne : b ≠ D := fun z => nb (by rw [z]; exact List.mem_of_getElem? eD5)
                        rw [upd_ne ne]; exact hb⟩
                      obtain ⟨_, rp6⟩ := rp5.wr_ eD5 (o := .lst (ws ++ [yw])) (u := .lst (vs ++ [yv])) (.lst ((r.mono xx).app (.cons (rv5.mono xx) .nil)))
                      exact ⟨ρ5, _, (((x2.trans x3).trans x4).trans x5).trans xx, rp6, PoA.base h1 xx⟩
                    · rw [if_neg hl] at h1; exact h1.elim
                  | _ => exact h1.elim
theorem se_lc (cn : Cn X E k) (hi : SI G p E X tg iter mi) (ok : BlkOk X.N X.env.scope scope own) (hown : own.map (·.2) = ct.slots) (hnd : ct.slots.Nodup)
    (hg : ∀ (s : Shared) (H : Hp) (C : Addr) (cl : List (Str × Addr)) (fp : List Addr), PG (X.blk s H scope (compEnvC scope cl C X.env) fp) tg (ct.tg X.K))
    (ht : ∀ (s : Shared) (H : Hp) (C : Addr) (cl : List (Str × Addr)) (fp : List Addr), Cn (X.blk s H scope (compEnvC scope cl C X.env) fp) E0 k → STs G p E0 (X.blk s H scope (compEnvC scope cl C X.env) fp) ifs mt)
    (he : ∀ (s : Shared) (H : Hp) (C : Addr) (cl : List (Str × Addr)) (fp : List Addr), Cn (X.blk s H scope (compEnvC scope cl C X.env) fp) E0 k → SE G p E0 (X.blk s H scope (compEnvC scope cl C X.env) fp) elt me)
    (hs : ∀ x, foldedSetIterable iter X.env x = pure x := by intro _; rfl) (hh : ∀ i ∈ ct.slots, G.hold ≠ some i := by intro _ _ z; cases z) : SE G p E X (.ListComp elt [⟨tg, iter, ifs, 0⟩] scope pos) (eLc p ct mi mt me) := by
  have h0 := pe_lc (pos := pos) (elt := elt) (ifs := ifs) (own := own) cn.calm cn.nd hi ok hg (fun s H C cl fp => ht s H C cl fp (cn_blk cn)) (fun s H C cl fp => he s H C cl fp (cn_blk cn)) hs
  rw [hown] at h0
  exact PE_imp h0 fun σ H Q ⟨ρ, l, s, rl, rp, h⟩ => ⟨ρ, l, s, rl, rp, PoA.bind h fun d s1 ρ1 H1 J x1 rp1 ri h1 => fun D hD => lc_way (X := X) (tgg := ct.tg X.K) hnd hh ri (rl.mono x1) rp1 hD h1⟩
theorem ss_setLc (i : Nat) {y : Str} {py spos : Pos} (cn : Cn X E k) (hi : SI G p E X tg iter mi) (ok : BlkOk X.N X.env.scope scope own) (hown : own.map (·.2) = ct.slots) (hnd : ct.slots.Nodup)
    (hg : ∀ (s : Shared) (H : Hp) (C : Addr) (cl : List (Str × Addr)) (fp : List Addr), PG (X.blk s H scope (compEnvC scope cl C X.env) fp) tg (ct.tg X.K))
    (ht : ∀ (s : Shared) (H : Hp) (C : Addr) (cl : List (Str × Addr)) (fp : List Addr), Cn (X.blk s H scope (compEnvC scope cl C X.env) fp) E0 k → STs G p E0 (X.blk s H scope (compEnvC scope cl C X.env) fp) ifs mt)
    (he : ∀ (s : Shared) (H : Hp) (C : Addr) (cl : List (Str × Addr)) (fp : List Addr), Cn (X.blk s H scope (compEnvC scope cl C X.env) fp) E0 k → SE G p E0 (X.blk s H scope (compEnvC scope cl C X.env) fp) elt me)
    (hsw : swapsWith (.ListComp elt [⟨tg, iter, ifs, 0⟩] scope pos) (some (.Name y py)) spos.line X.env = pure true) (hy : X.N[i]? = some y := by rfl) (hyl : X.env.scope.names.lookup y = some .local := by rfl)
    (hs : ∀ x, foldedSetIterable iter X.env x = pure x := by intro _; rfl) (hh : ∀ i ∈ ct.slots, G.hold ≠ some i := by intro _ _ z; cases z) (hh2 : G.hold ≠ some i := by intro z; cases z) : SS G p E X (.Assign [.Name y py] (.ListComp elt [⟨tg, iter, ifs, 0⟩] scope pos) spos) (sAsg (gNm i) (eLc p ct mi mt me)) := by
  have h0 := ps_setLc (spos := spos) (pos := pos) (elt := elt) (ifs := ifs) (own := own) cn.calm cn.nd hy hyl hsw hi ok hg (fun s H C cl fp => ht s H C cl fp (cn_blk cn)) (fun s H C cl fp => he s H C cl fp (cn_blk cn)) hs
  rw [hown] at h0
  refine PS_imp h0 fun D σ H ⟨ρ, l, s, rl, rp, h⟩ => ⟨ρ, l, s, rl, rp, ?_⟩
  have h1 := PoS.val (Q := fun v H1 => gName i v σ H1 D.nx) rl h fun w s1 ρ1 H1 v x1 rp1 rv1 h1 => h1 ρ1 H1 _ Ex.rfl' rp1 ((rl.mono x1).set i rv1 hh2)
  exact PoA.bind h1 fun d s1 ρ1 H1 J x1 rp1 ri h1 => fun D' hD => lc_way (X := X) (tgg := ct.tg X.K) hnd hh ri (rl.mono x1) rp1 hD h1
end
end CC
set_option Elab.async false
set_option linter.all false
set_option maxRecDepth 100000
namespace CC
open PySem PySem.Spec PyProof.Rows L2
def i64 (i : Int) : Bool := decide (-(2 ^ 64) < i) && decide (i < 2 ^ 64)
def gAdd (p : Hh) (x y : W) (s : S) : O2 := match x, y with
  | .int i, .int j => some (.int (i + j), s)
  | .str a, .str b => if a.length + b.length ≤ 1000000 then some (.str (a ++ b), s) else none
  | .tup a, .tup b => if a.length + b.length ≤ 1000000 then some (.tup (a ++ b), s) else none
  | .ref n, .ref m => (match rd p s n, rd p s m with
    | some (.lst a), some (.lst b) => if a.length + b.length ≤ 1000000 then some (.ref (nxt p s), al s (.lst (a ++ b))) else none
    | _, _ => none)
  | _, _ => none
def gSub (_ : Hh) (x y : W) (s : S) : O2 := match x, y with
  | .int i, .int j => some (.int (i - j), s)
  | _, _ => none
def repL (k : Int) (a : List W) : List W := (List.replicate k.toNat a).flatten
def gMul (p : Hh) (x y : W) (s : S) : O2 := match x, y with
  | .int i, .int j => if i64 i || i64 j then some (.int (i * j), s) else none
  | .ref n, .int k => (match rd p s n with
    | some (.lst a) => if -(2 ^ 63) ≤ k ∧ k < 2 ^ 63 ∧ a.length * k.toNat ≤ 1000000 then some (.ref (nxt p s), al s (.lst (repL k a))) else none
    | _ => none)
  | .tup a, .int k => if a ≠ [] ∧ 2 ≤ k ∧ k ≤ 1000 ∧ a.length ≤ 1000 then some (.tup (repL k a), s) else none
  | _, _ => none
def gFdiv (_ : Hh) (x y : W) (s : S) : O2 := match x, y with
  | .int i, .int j => if 0 < j ∧ j < 1606938044258990275541962092341162602522202993782792835301376 then some (.int (i / j), s) else none
  | _, _ => none
def gMod (_ : Hh) (x y : W) (s : S) : O2 := match x, y with
  | .int i, .int j => if 0 < j then some (.int (i % j), s) else none
  | _, _ => none
def gPow (_ : Hh) (x y : W) (s : S) : O2 := match x, y with
  | .int i, .int j => if 0 ≤ j ∧ j ≤ 1000000 ∧ i.natAbs < 2 ^ 64 then some (.int (i ^ j.toNat), s) else none
  | _, _ => none
def gNeg (_ : Hh) (x : W) (s : S) : O2 := match x with
  | .int i => some (.int (-i), s)
  | _ => none
def isInts : List W → Option (List Int)
  | [] => some []
  | .int i :: r => (isInts r).map (i :: ·)
  | _ => none
def gLt (_ : Hh) (x y : W) (s : S) : O2 := match x, y with
  | .int i, .int j => some (.bl (decide (i < j)), s)
  | .tup a, .tup b => (match isInts a, isInts b with | some ns, some ms => some (.bl (HT.lexLt ns ms), s) | _, _ => none)
  | _, _ => none
def gLe (_ : Hh) (x y : W) (s : S) : O2 := match x, y with
  | .int i, .int j => some (.bl (decide (i ≤ j)), s)
  | _, _ => none
def gGt (_ : Hh) (x y : W) (s : S) : O2 := match x, y with
  | .int i, .int j => some (.bl (decide (j < i)), s)
  | _, _ => none
def gGe (_ : Hh) (x y : W) (s : S) : O2 := match x, y with
  | .int i, .int j => some (.bl (decide (j ≤ i)), s)
  | _, _ => none
def isNon : W → Bool
  | .non => true
  | _ => false
def gIs (_ : Hh) (x y : W) (s : S) : O2 := match y with
  | .non => some (.bl (isNon x), s)
  | .bl b => (match x with | .bl a => some (.bl (decide (a = b)), s) | _ => none)
  | _ => none
def gIsN (_ : Hh) (x y : W) (s : S) : O2 := match y with
  | .non => some (.bl (!isNon x), s)
  | .bl b => (match x with | .bl a => some (.bl (!decide (a = b)), s) | _ => none)
  | _ => none
section
variable {G : GE} {X : Cx}
theorem opI_of {F : Value → Value → Sem Value} {r : R2} {f : Hh → W → W → S → O2} (hr : OpR X F r) (h : ∀ (p : Hh) (ρ : List Addr) (s : S) (H : Hp) (x y : W) (v u : V) (Q : VK), Rep G ρ p s H → RV G ρ H x v → RV G ρ H y u → PoO G p ρ H (f p x y s) Q → r v u H Q) : OpI G X F f :=
  fun p pins s σ H v u v' u' Q I rv ru ⟨ρ, s0, x, y, rp, r1, r2, q⟩ => hr pins s σ H v u v' u' Q I rv ru (h p ρ s0 H x y v u Q rp r1 r2 q)
theorem unI_of {F : Value → Sem Value} {r : V → Hp → VK → Prop} {f : Hh → W → S → O2} (hr : UnR X F r) (h : ∀ (p : Hh) (ρ : List Addr) (s : S) (H : Hp) (x : W) (v : V) (Q : VK), Rep G ρ p s H → RV G ρ H x v → PoO G p ρ H (f p x s) Q → r v H Q) : UnI G X F f :=
  fun p pins s σ H v v' Q I rv ⟨ρ, s0, x, rp, r1, q⟩ => hr pins s σ H v v' Q I rv (h p ρ s0 H x v Q rp r1 q)
theorem callI_of {F : Value} {r : List V → Hp → VK → Prop} {f : Hh → List W → S → O2} (hr : CallR X F r) (h : ∀ (p : Hh) (ρ : List Addr) (s : S) (H : Hp) (xs : List W) (vs : List V) (Q : VK), Rep G ρ p s H → RVs G ρ H xs vs → PoO G p ρ H (f p xs s) Q → r vs H Q) : CallI G X F f :=
  fun p pins s σ H vs us Q I rv ⟨ρ, s0, xs, rp, r1, q⟩ => hr pins s σ H vs us Q I rv (h p ρ s0 H xs vs Q rp r1 q)
theorem po_lst {p : Hh} {ρ : List Addr} {s : S} {H : Hp} {ws : List W} {vs : List V} {Q : VK} (rp : Rep G ρ p s H) (r : RVs G ρ H ws vs) (h : PoO G p ρ H (some (.ref (nxt p s), al s (.lst ws))) Q) {q : Addr} (hq : H q = none) : Q (.ref q) (upd H q (.lst vs)) := by
  have x : Ex ρ H (ρ ++ [q]) (upd H q (.lst vs)) := Ex.al rp hq
  obtain ⟨_, rp2, rv⟩ := rp.al_ (o := .lst ws) hq (.lst (r.mono x))
  exact h _ _ _ x rp2 rv
theorem po_tup {p : Hh} {ρ : List Addr} {s : S} {H : Hp} {ws : List W} {vs : List V} {Q : VK} (rp : Rep G ρ p s H) (r : RVs G ρ H ws vs) (h : PoO G p ρ H (some (.tup ws, s)) Q) {q : Addr} (hq : H q = none) : Q (.ref q) (upd H q (.tup vs)) :=
  have x := Ex.fresh (u := .tup vs) rp hq
  h ρ _ _ x (rp.fresh hq) (.tup (rp.ref_none hq) upd_same (r.mono x))
theorem lst_at {p : Hh} {ρ : List Addr} {s : S} {H : Hp} {n : Nat} {a : Addr} {ws : List W} (rp : Rep G ρ p s H) (h : rd p s n = some (.lst ws)) (e : ρ[n]? = some a) : ∃ vs, H a = some (.lst vs) ∧ RVs G ρ H ws vs := by
  obtain ⟨u, hu, ro⟩ := rp.at h e
  cases ro with
  | lst r => exact ⟨_, hu, r⟩
theorem i_add : OpI G X (binaryOp .Add) gAdd := by
  refine opI_of (OpR.or op_add (OpR.or op_add_str (OpR.or op_catA op_cat))) fun p ρ s H x y v u Q rp r1 r2 h => ?_
  cases r1 with
  | int i => cases r2 with
    | int j => exact .inl ⟨i, j, rfl, rfl, po_v h rp (.int _)⟩
    | _ => exact (show False from h).elim
  | str a => cases r2 with
    | str b =>
      simp only [gAdd] at h
      split at h
      · rename_i hl
        exact .inr (.inl ⟨a, b, rfl, rfl, million hl, po_v h rp (.str _)⟩)
      · exact h.elim
    | _ => exact (show False from h).elim
  | @tup a ws vs na ha r => cases r2 with
    | @tup b ws' vs' nb hb r' =>
      simp only [gAdd] at h
      split at h
      · rename_i hl
        refine .inr (.inr (.inl ⟨a, b, vs, vs', rfl, rfl, SqT.of ha, SqT.of hb, by rw [← r.len, ← r'.len]; exact million hl, fun e => ?_, fun _ e => ?_, fun _ _ q hq => po_tup rp (r.app r') h hq⟩))
        · subst e
          cases r
          exact h ρ H _ Ex.rfl' rp (.tup nb hb r')
        · subst e
          cases r'
          rw [List.append_nil] at h
          exact h ρ H _ Ex.rfl' rp (.tup na ha r)
      · exact h.elim
    | _ => exact (show False from h).elim
  | @ref n a e => cases r2 with
    | @ref m b e' =>
      simp only [gAdd] at h
      cases q1 : rd p s n with
      | none => rw [q1] at h; exact h.elim
      | some o1 =>
        cases q2 : rd p s m with
        | none =>
          rw [q1, q2] at h
          cases o1 <;> exact h.elim
        | some o2 =>
          rw [q1, q2] at h
          cases o1 with
          | lst ws => cases o2 with
            | lst ws' =>
              dsimp only at h
              split at h
              · rename_i hl
                obtain ⟨vs, hv, r⟩ := lst_at rp q1 e
                obtain ⟨vs', hv', r'⟩ := lst_at rp q2 e'
                exact .inr (.inr (.inr ⟨a, b, vs, vs', rfl, rfl, hv, hv', by rw [← r.len, ← r'.len]; exact million hl, fun q hq => po_lst rp (r.app r') h hq⟩))
              · exact h.elim
            | _ => exact h.elim
          | _ => exact h.elim
    | _ => exact (show False from h).elim
  | _ => exact (show False from h).elim
theorem i_sub : OpI G X (binaryOp .Sub) gSub := by
  refine opI_of op_sub fun p ρ s H x y v u Q rp r1 r2 h => ?_
  cases r1 with
  | int i => cases r2 with
    | int j => exact ⟨i, j, rfl, rfl, po_v h rp (.int _)⟩
    | _ => exact (show False from h).elim
  | _ => exact (show False from h).elim
theorem i64_ok {i j : Int} (h : (i64 i || i64 j) = true) : CMul i j := by
  rcases Bool.or_eq_true_iff.mp h with h | h
  · obtain ⟨a, b⟩ := Bool.and_eq_true_iff.mp h
    exact .inl ⟨of_decide_eq_true a, of_decide_eq_true b⟩
  · obtain ⟨a, b⟩ := Bool.and_eq_true_iff.mp h
    exact .inr ⟨of_decide_eq_true a, of_decide_eq_true b⟩
theorem RVs.rep {ρ : List Addr} {H : Hp} {ws : List W} {vs : List V} (r : RVs G ρ H ws vs) : ∀ n : Nat, RVs G ρ H (List.replicate n ws).flatten (List.replicate n vs).flatten
  | 0 => .nil
  | n + 1 => by
    simp only [List.replicate_succ, List.flatten_cons]
    exact r.app (RVs.rep r n)
theorem i_mul : OpI G X (binaryOp .Mult) gMul := by
  refine opI_of (OpR.or op_mul (OpR.or op_rep op_repT)) fun p ρ s H x y v u Q rp r1 r2 h => ?_
  cases r1 with
  | int i => cases r2 with
    | int j =>
      simp only [gMul] at h
      split at h
      · rename_i hc
        exact .inl ⟨i, j, rfl, rfl, i64_ok hc, po_v h rp (.int _)⟩
      · exact h.elim
    | _ => exact (show False from h).elim
  | @ref n a e => cases r2 with
    | int k =>
      simp only [gMul] at h
      cases q1 : rd p s n with
      | none => rw [q1] at h; exact h.elim
      | some o1 =>
        rw [q1] at h
        cases o1 with
        | lst ws =>
          dsimp only at h
          split at h
          · rename_i hl
            obtain ⟨vs, hv, r⟩ := lst_at rp q1 e
            obtain ⟨h1, h2, h3⟩ := hl
            exact .inr (.inl ⟨a, k, vs, rfl, rfl, hv, h1, h2, by rw [← r.len]; exact million h3, fun q hq => po_lst rp (r.rep _) h hq⟩)
          · exact h.elim
        | _ => exact h.elim
    | _ => exact (show False from h).elim
  | @tup a ws vs na ha r => cases r2 with
    | int k =>
      simp only [gMul] at h
      split at h
      · rename_i hl
        obtain ⟨h1, h2, h3, h4⟩ := hl
        refine .inr (.inr ⟨a, k, vs, rfl, rfl, SqT.of ha, fun e => ?_, h2, h3, by rw [← r.len]; exact h4, fun q hq => po_tup rp (r.rep _) h hq⟩)
        subst e
        cases r
        exact h1 rfl
      · exact h.elim
    | _ => exact (show False from h).elim
  | _ => exact (show False from h).elim
theorem i_fdiv : OpI G X (binaryOp .FloorDiv) gFdiv := by
  refine opI_of op_fdivW fun p ρ s H x y v u Q rp r1 r2 h => ?_
  cases r1 with
  | int i => cases r2 with
    | int j =>
      simp only [gFdiv] at h
      split at h
      · rename_i hc
        exact ⟨i, j, rfl, rfl, wide_div (b := 200) hc.1 (by rw [show (2 : Nat) ^ 200 = 1606938044258990275541962092341162602522202993782792835301376 from rfl]; omega) (by decide) (by decide), po_v h rp (.int _)⟩
      · exact h.elim
    | _ => exact (show False from h).elim
  | _ => exact (show False from h).elim
theorem i_mod : OpI G X (binaryOp .Mod) gMod := by
  refine opI_of op_mod fun p ρ s H x y v u Q rp r1 r2 h => ?_
  cases r1 with
  | int i => cases r2 with
    | int j =>
      simp only [gMod] at h
      split at h
      · rename_i hc
        exact ⟨i, j, rfl, rfl, hc, po_v h rp (.int _)⟩
      · exact h.elim
    | _ => exact (show False from h).elim
  | _ => exact (show False from h).elim
theorem i_pow : OpI G X (binaryOp .Pow) gPow := by
  refine opI_of op_pow fun p ρ s H x y v u Q rp r1 r2 h => ?_
  cases r1 with
  | int i => cases r2 with
    | int j =>
      simp only [gPow] at h
      split at h
      · rename_i hc
        exact ⟨i, j, rfl, rfl, hc, po_v h rp (.int _)⟩
      · exact h.elim
    | _ => exact (show False from h).elim
  | _ => exact (show False from h).elim
theorem i_neg : UnI G X (unaryOp .USub) gNeg := by
  refine unI_of un_neg fun p ρ s H x v Q rp r1 h => ?_
  cases r1 with
  | int i => exact ⟨i, rfl, po_v h rp (.int _)⟩
  | _ => exact (show False from h).elim
theorem isInts_ok {ρ : List Addr} {H : Hp} : ∀ {ws : List W} {vs : List V} {ns : List Int}, isInts ws = some ns → RVs G ρ H ws vs → vs = ns.map V.int
  | [], _, ns, h, r => by simp only [isInts] at h; cases h; cases r; rfl
  | w :: ws, _, ns, h, r => by
    cases r with
    | cons r1 r2 =>
      cases r1 with
      | int i =>
        simp only [isInts] at h
        cases q : isInts ws with
        | none => rw [q] at h; cases h
        | some ms =>
          rw [q] at h
          cases h
          rw [isInts_ok q r2]
          rfl
      | _ => cases h
theorem i_lt (hu : X.A.units < cLine) : OpI G X (compareOp .Lt) gLt := by
  refine opI_of (OpR.or op_lt (op_ltT hu)) fun p ρ s H x y v u Q rp r1 r2 h => ?_
  cases r1 with
  | int i => cases r2 with
    | int j => exact .inl ⟨i, j, rfl, rfl, po_v h rp (.bl _)⟩
    | _ => exact (show False from h).elim
  | @tup a ws vs na ha r => cases r2 with
    | @tup b ws' vs' nb hb r' =>
      simp only [gLt] at h
      cases q1 : isInts ws with
      | none => rw [q1] at h; exact h.elim
      | some ns =>
        cases q2 : isInts ws' with
        | none => rw [q1, q2] at h; exact h.elim
        | some ms =>
          rw [q1, q2] at h
          have e1 := isInts_ok q1 r
          have e2 := isInts_ok q2 r'
          subst e1 e2
          exact .inr ⟨a, b, ns, ms, rfl, rfl, SqT.of ha, SqT.of hb, po_v h rp (.bl _)⟩
    | _ => exact (show False from h).elim
  | _ => exact (show False from h).elim
theorem i_le : OpI G X (compareOp .LtE) gLe := by
  refine opI_of op_le fun p ρ s H x y v u Q rp r1 r2 h => ?_
  cases r1 with
  | int i => cases r2 with
    | int j => exact ⟨i, j, rfl, rfl, po_v h rp (.bl _)⟩
    | _ => exact (show False from h).elim
  | _ => exact (show False from h).elim
theorem i_gt : OpI G X (compareOp .Gt) gGt := by
  refine opI_of op_gt fun p ρ s H x y v u Q rp r1 r2 h => ?_
  cases r1 with
  | int i => cases r2 with
    | int j => exact ⟨i, j, rfl, rfl, po_v h rp (.bl _)⟩
    | _ => exact (show False from h).elim
  | _ => exact (show False from h).elim
theorem i_ge : OpI G X (compareOp .GtE) gGe := by
  refine opI_of op_ge fun p ρ s H x y v u Q rp r1 r2 h => ?_
  cases r1 with
  | int i => cases r2 with
    | int j => exact ⟨i, j, rfl, rfl, po_v h rp (.bl _)⟩
    | _ => exact (show False from h).elim
  | _ => exact (show False from h).elim
theorem isNon_ok {ρ : List Addr} {H : Hp} {x : W} {v : V} (r : RV G ρ H x v) : isNon x = decide (v = .non) := by
  cases r <;> first | rfl | simp [isNon]
theorem i_is : OpI G X (compareOp .Is) gIs := by
  refine opI_of (OpR.or op_isN op_isBl) fun p ρ s H x y v u Q rp r1 r2 h => ?_
  cases r2 with
  | non => exact .inl ⟨rfl, by rw [← isNon_ok r1]; exact po_v h rp (.bl _)⟩
  | bl b => cases r1 with
    | bl a => exact .inr ⟨a, b, rfl, rfl, po_v h rp (.bl _)⟩
    | _ => exact (show False from h).elim
  | _ => exact (show False from h).elim
theorem i_isN : OpI G X (compareOp .IsNot) gIsN := by
  refine opI_of (OpR.or op_notN op_notBl) fun p ρ s H x y v u Q rp r1 r2 h => ?_
  cases r2 with
  | non => exact .inl ⟨rfl, by rw [← isNon_ok r1]; exact po_v h rp (.bl _)⟩
  | bl b => cases r1 with
    | bl a => exact .inr ⟨a, b, rfl, rfl, po_v h rp (.bl _)⟩
    | _ => exact (show False from h).elim
  | _ => exact (show False from h).elim
end
end CC
set_option Elab.async false
set_option linter.all false
set_option maxRecDepth 100000
namespace CC
open PySem PySem.Spec PyProof.Rows L2
def mapO {α β : Type} (f : α → Option β) : List α → Option (List β)
  | [] => some []
  | a :: r => match f a with
    | none => none
    | some b => (match mapO f r with
      | none => none
      | some q => some (b :: q))
def datW (p : Hh) (s : S) : Nat → W → Option PyData
  | _, .non => some .none
  | _, .bl b => some (.bool b)
  | _, .int i => some (.int i)
  | _, .str z => some (.str z)
  | f + 1, .tup ws => (match mapO (datW p s f) ws with | some ds => some (.tuple ds) | none => none)
  | f + 1, .ref n => match rd p s n with
    | some (.lst ws) => (match mapO (datW p s f) ws with | some ds => some (.list ds) | none => none)
    | some (.frz ns) => some (.list (ns.map .int))
    | some (.dct []) => some (.dict [])
    | _ => none
  | _, _ => none
def dat (p : Hh) (s : S) (w : W) : Option PyData := datW p s 12 w
mutual
def noLst : PyData → Bool
  | .list _ => false
  | .tuple ds => noLsts ds
  | .none => true
  | .bool _ => true
  | .int _ => true
  | .str _ => true
  | .dict _ => true
def noLsts : List PyData → Bool
  | [] => true
  | d :: r => noLst d && noLsts r
end
def gEqD (p : Hh) (x y : W) (s : S) : Option Bool := match dat p s x, dat p s y with
  | some d, some e => if SeqAt.shaped d && SeqAt.shaped e then some (PyData.eqv d e) else none
  | _, _ => none
def gEqB (p : Hh) (x y : W) (s : S) : Option Bool := match x with
  | .int i => (match y with
    | .int j => some (decide (i = j))
    | _ => gEqD p x y s)
  | _ => gEqD p x y s
def gEq (p : Hh) (x y : W) (s : S) : O2 := match gEqB p x y s with
  | some b => some (.bl b, s)
  | none => none
def gNe (p : Hh) (x y : W) (s : S) : O2 := match gEqB p x y s with
  | some b => some (.bl (!b), s)
  | none => none
def fRepr (p : Hh) (xs : List W) (s : S) : O2 := match xs with
  | [x] => (match dat p s x with
    | some d => if d.showable && (!d.hasDict || noLst d) && decide (d.depth ≤ 40) && decide (d.shown.length ≤ 1000000) then some (.str d.shown, s) else none
    | none => none)
  | _ => none
def gInB (p : Hh) (x y : W) (s : S) : Option Bool := match dat p s x, dat p s y with
  | some d, some (.list ds) => if SeqAt.shaped d && SeqAt.shaped (.list ds) then some (ds.any fun z => PyData.eqv z d) else none
  | some d, some (.tuple ds) => if SeqAt.shaped d && SeqAt.shaped (.tuple ds) then some (ds.any fun z => PyData.eqv z d) else none
  | _, _ => none
def gIn (p : Hh) (x y : W) (s : S) : O2 := match gInB p x y s with
  | some b => some (.bl b, s)
  | none => none
section
variable {G : GE} {X : Cx} {ρ : List Addr} {H : Hp} {p : Hh} {s : S} {pins : List (Addr × Obj)} {σ : L2.St} {sh : Shared}
theorem ns_reads {h : Heap} : ∀ {ns : List Int} {us : List Value}, Vals (ns.map V.int) us → ReadsAll h us (ns.map .int) []
  | [], _, r => by cases r; exact .nil
  | i :: ns, _, r => by
    cases r with
    | cons r1 r2 =>
      obtain ⟨t, rfl⟩ := r1
      exact .cons (.int i t) (ns_reads r2)
theorem reads_all {f : W → Option PyData} (hf : ∀ w v u d, f w = some d → RV G ρ H w v → RelV v u → ∃ as, Reads sh.heap u d as ∧ (noLst d = true → sysModules ∉ as)) :
    ∀ {ws : List W} {vs : List V} {us : List Value} {ds : List PyData}, mapO f ws = some ds → RVs G ρ H ws vs → Vals vs us → ∃ as, ReadsAll sh.heap us ds as ∧ (noLsts ds = true → sysModules ∉ as)
  | [], _, us, ds, h, r, rv => by
    simp only [mapO] at h
    cases h; cases r; cases rv
    exact ⟨_, .nil, fun _ m => by cases m⟩
  | w :: ws, _, us, ds, h, r, rv => by
    simp only [mapO] at h
    cases r with
    | cons r1 r2 =>
      cases rv with
      | cons v1 v2 =>
        cases q : f w with
        | none => rw [q] at h; cases h
        | some d =>
          rw [q] at h
          dsimp only at h
          cases q2 : mapO f ws with
          | none => rw [q2] at h; cases h
          | some ds' =>
            rw [q2] at h
            cases h
            obtain ⟨as, a1, a2⟩ := hf w _ _ d q r1 v1
            obtain ⟨bs, b1, b2⟩ := reads_all hf q2 r2 v2
            refine ⟨_, .cons a1 b1, fun z m => ?_⟩
            simp only [noLsts, Bool.and_eq_true] at z
            exact (List.mem_append.mp m).elim (a2 z.1) (b2 z.2)
theorem reads_w (I : Inv X pins σ H sh) (rp : Rep G ρ p s H) : ∀ (f : Nat) (w : W) (v : V) (u : Value) (d : PyData), datW p s f w = some d → RV G ρ H w v → RelV v u → ∃ as, Reads sh.heap u d as ∧ (noLst d = true → sysModules ∉ as)
  | f, .non, v, u, d, h, r, ru => by
    have h : some PyData.none = some d := by cases f <;> exact h
    cases h; cases r; cases ru
    exact ⟨_, .none, fun _ m => by cases m⟩
  | f, .bl b, v, u, d, h, r, ru => by
    have h : some (PyData.bool b) = some d := by cases f <;> exact h
    cases h; cases r; cases ru
    exact ⟨_, .bool b, fun _ m => by cases m⟩
  | f, .int i, v, u, d, h, r, ru => by
    have h : some (PyData.int i) = some d := by cases f <;> exact h
    cases h; cases r
    obtain ⟨t, rfl⟩ := ru
    exact ⟨_, .int i t, fun _ m => by cases m⟩
  | f, .str z, v, u, d, h, r, ru => by
    have h : some (PyData.str z) = some d := by cases f <;> exact h
    cases h; cases r
    obtain ⟨t, rfl⟩ := ru
    exact ⟨_, .str z t, fun _ m => by cases m⟩
  | 0, .tup ws, v, u, d, h, r, ru => by cases h
  | 0, .ref n, v, u, d, h, r, ru => by cases h
  | f + 1, .tup ws, v, u, d, h, r, ru => by
    simp only [datW] at h
    cases q : mapO (datW p s f) ws with
    | none => rw [q] at h; cases h
    | some ds =>
      rw [q] at h
      cases h
      cases r with
      | @tup a _ vs na ha r =>
        cases ru
        obtain ⟨its, rv, ⟨o, ho, hc, n, hd⟩, _⟩ := I.tuple (xs := vs) (SqT.of ha)
        obtain ⟨as, a1, a2⟩ := reads_all (reads_w I rp f) q r rv
        exact ⟨_, .tuple ho hc hd a1, a2⟩
  | f + 1, .ref n, v, u, d, h, r, ru => by
    simp only [datW] at h
    cases r with
    | @ref _ a e =>
      cases ru
      cases q : rd p s n with
      | none => rw [q] at h; cases h
      | some o =>
        obtain ⟨hu, hh, ro⟩ := rp.at q e
        rw [q] at h
        cases ro with
        | @lst ws vs r =>
          dsimp only at h
          cases q2 : mapO (datW p s f) ws with
          | none => rw [q2] at h; cases h
          | some ds =>
            rw [q2] at h
            cases h
            obtain ⟨its, rv, ⟨o, n, ho, hc, _, hd⟩, _⟩ := I.list (xs := vs) (SqL.of hh)
            obtain ⟨as, a1, a2⟩ := reads_all (reads_w I rp f) q2 r rv
            exact ⟨_, .list ho hc hd a1, fun z => nomatch z⟩
        | @frz ns o =>
          cases h
          obtain ⟨its, rv, ⟨o, n, ho, hc, _, hd⟩, _⟩ := I.list (xs := ns.map V.int) (.inl (.inr ⟨o, hh⟩))
          exact ⟨_, .list ho hc hd (ns_reads rv), fun z => nomatch z⟩
        | @dK kvs ks r r2 =>
          cases kvs with
          | cons _ _ => cases h
          | nil =>
            cases h
            have e1 : ks = [] := by
              cases ks with
              | nil => rfl
              | cons _ _ => cases r
            subst e1
            obtain ⟨_, hsm, vs, rel, o, es, ep, h1, h2, h3, h4, h5, h6⟩ := (show ObjOk X.prog X.w H sh.heap a (.dK []) from I.hok a _ hh)
            cases rel
            have e2 : es.toList = [] := by
              cases q3 : es.toList with
              | nil => rfl
              | cons _ _ => rw [q3] at h5; cases h5
            refine ⟨_, .dict h1 h2.1 h3 (by rw [e2]; exact .nil) (by rw [e2]; exact .nil), fun _ m => ?_⟩
            rcases List.mem_append.mp m with m | m
            · rcases List.mem_cons.mp m with m | m
              · rw [← m] at hsm
                exact absurd (beq_self_eq_true sysModules) (by rw [hsm]; exact Bool.false_ne_true)
              · cases m
            · cases m
        | dT _ _ => cases h
        | ins _ _ => cases h
theorem eqD_ok (hu : X.A.units + 64 < cLine) (I : Inv X pins σ H sh) (rp : Rep G ρ p s H) {x y : W} {v u : V} {v' u' : Value} {b : Bool} (e : gEqD p x y s = some b) (r1 : RV G ρ H x v) (r2 : RV G ρ H y u) (rv : RelV v v') (ru : RelV u u') :
    (∀ {Q E : Value → Shared → Prop}, Q (.bool b) sh → wpAny (model X.prog X.w) X.A (compareOp .Eq v' u') Q E sh) ∧ (∀ {Q E : Value → Shared → Prop}, Q (.bool (!b)) sh → wpAny (model X.prog X.w) X.A (compareOp .NotEq v' u') Q E sh) := by
  unfold gEqD at e
  cases d1 : dat p s x with
  | none => rw [d1] at e; cases e
  | some d =>
    cases d2 : dat p s y with
    | none => rw [d1, d2] at e; cases e
    | some d' =>
      rw [d1, d2] at e
      dsimp only at e
      split at e
      · rename_i hs
        obtain ⟨s1, s2⟩ := Bool.and_eq_true_iff.mp hs
        cases e
        obtain ⟨as, a1, _⟩ := reads_w I rp _ _ _ _ _ d1 r1 rv
        obtain ⟨bs, b1, _⟩ := reads_w I rp _ _ _ _ _ d2 r2 ru
        exact ⟨fun q => SeqAt.compareEq_shaped a1 b1 s1 s2 hu q, fun q => SeqAt.compareNe_shaped a1 b1 s1 s2 hu q⟩
      · cases e
theorem eqB_cases {x y : W} {b : Bool} (e : gEqB p x y s = some b) : gEqD p x y s = some b ∨ ∃ i j, x = .int i ∧ y = .int j ∧ b = decide (i = j) := by
  unfold gEqB at e
  cases x with
  | int i => cases y with
    | int j => cases e; exact .inr ⟨i, j, rfl, rfl, rfl⟩
    | _ => exact .inl e
  | _ => exact .inl e
theorem i_eq (hu : X.A.units + 64 < cLine) : OpI G X (compareOp .Eq) gEq := by
  intro p pins s σ H v u v' u' Q I rv ru ⟨ρ, s0, x, y, rp, r1, r2, q⟩
  unfold gEq at q
  cases e : gEqB p x y s0 with
  | none => rw [e] at q; exact q.elim
  | some b =>
    rw [e] at q
    rcases eqB_cases e with e | ⟨i, j, rfl, rfl, rfl⟩
    · exact (eqD_ok hu I rp e r1 r2 rv ru).1 ⟨.bl _, H, I, rfl, po_v q rp (.bl _)⟩
    · cases r1; cases r2
      have z := po_v q rp (.bl _)
      refine op_eq pins s σ H _ _ v' u' Q I rv ru ⟨rfl, ?_⟩
      rw [dec_int]
      exact z
theorem i_ne (hu : X.A.units + 64 < cLine) : OpI G X (compareOp .NotEq) gNe := by
  intro p pins s σ H v u v' u' Q I rv ru ⟨ρ, s0, x, y, rp, r1, r2, q⟩
  unfold gNe at q
  cases e : gEqB p x y s0 with
  | none => rw [e] at q; exact q.elim
  | some b =>
    rw [e] at q
    rcases eqB_cases e with e | ⟨i, j, rfl, rfl, rfl⟩
    · exact (eqD_ok hu I rp e r1 r2 rv ru).2 ⟨.bl _, H, I, rfl, po_v q rp (.bl _)⟩
    · cases r1; cases r2
      have z := po_v q rp (.bl _)
      refine op_ne pins s σ H _ _ v' u' Q I rv ru ⟨rfl, ?_⟩
      rw [dec_int]
      exact z
theorem inB_ok (hu : X.A.units + 65 < cLine) (I : Inv X pins σ H sh) (rp : Rep G ρ p s H) {x y : W} {v u : V} {v' u' : Value} {b : Bool} (e : gInB p x y s = some b) (r1 : RV G ρ H x v) (r2 : RV G ρ H y u) (rv : RelV v v') (ru : RelV u u') :
    (∀ {Q E : Value → Shared → Prop}, Q (.bool b) sh → wpAny (model X.prog X.w) X.A (compareOp .In v' u') Q E sh) ∧ (∀ {Q E : Value → Shared → Prop}, Q (.bool (!b)) sh → wpAny (model X.prog X.w) X.A (compareOp .NotIn v' u') Q E sh) := by
  unfold gInB at e
  cases d1 : dat p s x with
  | none => rw [d1] at e; cases e
  | some d =>
    cases d2 : dat p s y with
    | none => rw [d1, d2] at e; cases e
    | some d' =>
      rw [d1, d2] at e
      obtain ⟨as, a1, _⟩ := reads_w I rp _ _ _ _ _ d1 r1 rv
      obtain ⟨bs, b1, _⟩ := reads_w I rp _ _ _ _ _ d2 r2 ru
      cases d' with
      | list ds =>
        dsimp only at e
        split at e
        · rename_i hs
          obtain ⟨s1, s2⟩ := Bool.and_eq_true_iff.mp hs
          cases e
          exact ⟨fun q => SeqAt.in_list_reads b1 a1 (SeqAt.canLay_of_shaped s2) (SeqAt.canLay_of_shaped s1) (room_in_shaped s1 hu) q, fun q => SeqAt.notIn_list_reads b1 a1 (SeqAt.canLay_of_shaped s2) (SeqAt.canLay_of_shaped s1) (room_in_shaped s1 hu) q⟩
        · cases e
      | tuple ds =>
        dsimp only at e
        split at e
        · rename_i hs
          obtain ⟨s1, s2⟩ := Bool.and_eq_true_iff.mp hs
          cases e
          exact ⟨fun q => SeqAt.in_tuple_reads b1 a1 (SeqAt.canLay_of_shaped s2) (SeqAt.canLay_of_shaped s1) (room_in_shaped s1 hu) q, fun q => SeqAt.notIn_tuple_reads b1 a1 (SeqAt.canLay_of_shaped s2) (SeqAt.canLay_of_shaped s1) (room_in_shaped s1 hu) q⟩
        · cases e
      | _ => cases e
theorem i_in (hu : X.A.units + 65 < cLine) : OpI G X (compareOp .In) gIn := by
  intro p pins s σ H v u v' u' Q I rv ru ⟨ρ, s0, x, y, rp, r1, r2, q⟩
  unfold gIn at q
  cases e : gInB p x y s0 with
  | none => rw [e] at q; exact q.elim
  | some b =>
    rw [e] at q
    exact (inB_ok hu I rp e r1 r2 rv ru).1 ⟨.bl _, H, I, rfl, po_v q rp (.bl _)⟩
theorem c_repr (hg : X.A.guards = some []) (hu : X.A.units + 64 < cLine) : CallI G X (.builtin "repr") fRepr := by
  intro p pins s σ H vs us Q I rv ⟨ρ, s0, xs, rp, r1, q⟩
  unfold fRepr at q
  match xs, vs, us, r1, rv with
  | [], _, _, _, _ => exact q.elim
  | _ :: _ :: _, _, _, _, _ => exact q.elim
  | [x], [v], [u], .cons r1 .nil, .cons r2 .nil =>
    dsimp only at q
    cases d1 : dat p s0 x with
    | none => rw [d1] at q; exact q.elim
    | some d =>
      rw [d1] at q
      dsimp only at q
      split at q
      · rename_i hc
        obtain ⟨hc, h3⟩ := Bool.and_eq_true_iff.mp hc
        obtain ⟨hc, h2⟩ := Bool.and_eq_true_iff.mp hc
        obtain ⟨h1, h4⟩ := Bool.and_eq_true_iff.mp hc
        have h2 := of_decide_eq_true h2
        have h3 := million (of_decide_eq_true h3)
        have qq := po_v q rp (.str _)
        obtain ⟨as, a1, a2⟩ := reads_w I rp _ _ _ _ _ d1 r1 r2
        have rf : ∀ a, u = .ref a → wpAny (model X.prog X.w) X.A (call (.builtin "repr") [u]) (EP X pins σ Q) X.xe s := fun a e => by
          subst e
          refine repr_of_reads' (h₀ := s.heap) a1 h1 (fun z => a2 (by rw [z] at h4; exact h4)) hg (by have := h2; omega) (fun _ _ h => h) (fun h' u tk hk => ⟨.str _, H, I.kept hk, ⟨_, rfl⟩, qq⟩) h3
        cases a1 with
        | none => exact P.repr_of_none ⟨.str _, H, I.tok _, ⟨_, rfl⟩, qq⟩
        | bool b => exact P.repr_of_bool ⟨.str _, H, I.tok _, ⟨_, rfl⟩, qq⟩
        | int i t => exact P.repr_of_int (of_decide_eq_true h1) ⟨.str _, H, I.tok _, ⟨_, rfl⟩, qq⟩
        | str z t => exact P.repr_of_str ⟨.str _, H, I.tok _, ⟨_, rfl⟩, qq⟩ h3
        | list g1 g2 g3 g4 => exact rf _ rfl
        | tuple g1 g2 g3 g4 => exact rf _ rfl
        | dict g1 g2 g3 g4 g5 => exact rf _ rfl
      · exact q.elim
end
end CC
set_option Elab.async false
set_option linter.all false
set_option maxRecDepth 100000
namespace CC
open PySem PySem.Spec PyProof.Rows L2
def seqItems (p : Hh) (s : S) : W → Option (List W)
  | .tup ws => some ws
  | .ref n => cellItems p s n
  | _ => none
def fLen (p : Hh) (xs : List W) (s : S) : O2 := match xs with
  | [.str z] => if z.length ≤ 1000000 then some (.int z.length, s) else none
  | [w] => (match seqItems p s w with
    | some ws => some (.int ws.length, s)
    | none => none)
  | _ => none
def fList (p : Hh) (xs : List W) (s : S) : O2 := match xs with
  | [w] => (match seqItems p s w with
    | some ws => some (.ref (nxt p s), al s (.lst ws))
    | none => none)
  | _ => none
def fTuple (p : Hh) (xs : List W) (s : S) : O2 := match xs with
  | [w] => (match seqItems p s w with
    | some ws => some (.tup ws, s)
    | none => none)
  | _ => none
def fAbs (p : Hh) (xs : List W) (s : S) : O2 := match xs with
  | [.int i] => some (.int (if i < 0 then -i else i), s)
  | _ => none
def fMax2 (p : Hh) (xs : List W) (s : S) : O2 := match xs with
  | [.int i, .int j] => some (.int (if j > i then j else i), s)
  | _ => none
def fMin2 (p : Hh) (xs : List W) (s : S) : O2 := match xs with
  | [.int i, .int j] => some (.int (if j < i then j else i), s)
  | _ => none
def fInt (p : Hh) (xs : List W) (s : S) : O2 := match xs with
  | [.int i] => some (.int i, s)
  | [.bl b] => some (.int (if b then 1 else 0), s)
  | _ => none
def isBls : List W → Option (List Bool)
  | [] => some []
  | .bl b :: r => (match isBls r with | some q => some (b :: q) | none => none)
  | _ => none
def cellL (p : Hh) (s : S) : W → Option (List W)
  | .ref n => cellItems p s n
  | _ => none
def fAll (p : Hh) (xs : List W) (s : S) : O2 := match xs with
  | [w] => (match cellL p s w with
    | some ws => (match isBls ws with | some ns => some (.bl (ns.all id), s) | none => none)
    | none => none)
  | _ => none
section
variable {G : GE} {X : Cx} {ρ : List Addr} {H : Hp} {p : Hh} {s : S}
theorem seq_at {K : PySem.W.Frag} {w : W} {v : V} {ws : List W} (rp : Rep G ρ p s H) (r : RV G ρ H w v) (h : seqItems p s w = some ws) : ∃ a vs, v = .ref a ∧ RVs G ρ H ws vs ∧ (SqL K H a vs ∨ (SqT K H a vs ∧ w = .tup ws)) := by
  cases r with
  | @tup a ws' vs na ha r => cases h; exact ⟨a, vs, rfl, r, .inr ⟨SqT.of ha, rfl⟩⟩
  | @ref n a e =>
    obtain ⟨vs, h1, h2⟩ := cell_seq (K := K) rp h e
    exact ⟨a, vs, rfl, h2, .inl h1⟩
  | _ => cases h
theorem cellL_at {K : PySem.W.Frag} {w : W} {v : V} {ws : List W} (rp : Rep G ρ p s H) (r : RV G ρ H w v) (h : cellL p s w = some ws) : ∃ a vs, v = .ref a ∧ RVs G ρ H ws vs ∧ SqL K H a vs := by
  cases r with
  | @ref n a e =>
    obtain ⟨vs, h1, h2⟩ := cell_seq (K := K) rp h e
    exact ⟨a, vs, rfl, h2, h1⟩
  | _ => cases h
theorem c_len : CallI G X (.builtin "len") fLen := by
  refine callI_of (CallR.or call_len_seq call_len_str) fun p ρ s H xs vs Q rp r h => ?_
  match xs, vs, r, h with
  | [], _, _, h => exact h.elim
  | _ :: _ :: _, _, _, h => exact (by unfold fLen at h; split at h <;> first | exact h.elim | simp_all)
  | [w], [v], .cons r1 .nil, h =>
    unfold fLen at h
    split at h
    · rename_i z e
      cases e
      cases r1
      split at h
      · rename_i hl
        exact .inr ⟨z, rfl, million hl, po_v h rp (.int _)⟩
      · exact h.elim
    · rename_i w' _ e
      cases e
      split at h
      · rename_i ws e
        obtain ⟨a, vs, rfl, r2, r3⟩ := seq_at (K := X.K) rp r1 e
        have q := po_v h rp (.int _)
        rw [r2.len] at q
        exact .inl ⟨a, vs, rfl, r3.imp id (·.1), q⟩
      · exact h.elim
    · exact h.elim
theorem c_list : CallI G X (.type "list") fList := by
  refine callI_of call_list_of fun p ρ s H xs vs Q rp r h => ?_
  match xs, vs, r, h with
  | [], _, _, h => exact h.elim
  | _ :: _ :: _, _, _, h => exact h.elim
  | [w], [v], .cons r1 .nil, h =>
    unfold fList at h
    dsimp only at h
    split at h
    · rename_i ws e
      obtain ⟨a, vs, rfl, r2, r3⟩ := seq_at (K := X.K) rp r1 e
      exact ⟨a, vs, rfl, r3.imp id (·.1), fun l hl => po_lst rp r2 h hl⟩
    · exact h.elim
theorem c_tuple : CallI G X (.type "tuple") fTuple := by
  refine callI_of call_tuple_of fun p ρ s H xs vs Q rp r h => ?_
  match xs, vs, r, h with
  | [], _, _, h => exact h.elim
  | _ :: _ :: _, _, _, h => exact h.elim
  | [w], [v], .cons r1 .nil, h =>
    unfold fTuple at h
    dsimp only at h
    split at h
    · rename_i ws e
      obtain ⟨a, vs, rfl, r2, r3⟩ := seq_at (K := X.K) rp r1 e
      refine ⟨a, vs, rfl, ?_⟩
      rcases r3 with r3 | ⟨r3, e2⟩
      · exact .inl ⟨r3, fun l hl => po_tup rp r2 h hl⟩
      · subst e2
        exact .inr ⟨r3, po_v h rp r1⟩
    · exact h.elim
theorem c_abs : CallI G X (.builtin "abs") fAbs := by
  refine callI_of call_abs fun p ρ s H xs vs Q rp r h => ?_
  unfold fAbs at h
  split at h
  · cases r with | cons r1 r2 => cases r1; cases r2; exact ⟨_, rfl, po_v h rp (.int _)⟩
  · exact h.elim
theorem c_max2 (hc : X.calm = true) : CallI G X (.builtin "max") fMax2 := by
  refine callI_of (call_max2 hc) fun p ρ s H xs vs Q rp r h => ?_
  unfold fMax2 at h
  split at h
  · cases r with | cons r1 r2 => cases r1; cases r2 with | cons r2 r3 => cases r2; cases r3; exact ⟨_, _, rfl, po_v h rp (.int _)⟩
  · exact h.elim
theorem c_min2 (hc : X.calm = true) : CallI G X (.builtin "min") fMin2 := by
  refine callI_of (call_min2 hc) fun p ρ s H xs vs Q rp r h => ?_
  unfold fMin2 at h
  split at h
  · cases r with | cons r1 r2 => cases r1; cases r2 with | cons r2 r3 => cases r2; cases r3; exact ⟨_, _, rfl, po_v h rp (.int _)⟩
  · exact h.elim
theorem c_int : CallI G X (.type "int") fInt := by
  refine callI_of call_int1 fun p ρ s H xs vs Q rp r h => ?_
  unfold fInt at h
  split at h
  · cases r with | cons r1 r2 => cases r1; cases r2; exact .inl ⟨_, rfl, po_v h rp (.int _)⟩
  · cases r with | cons r1 r2 => cases r1; cases r2; exact .inr ⟨_, rfl, po_v h rp (.int _)⟩
  · exact h.elim
theorem isBls_ok {ρ : List Addr} {H : Hp} : ∀ {ws : List W} {vs : List V} {ns : List Bool}, isBls ws = some ns → RVs G ρ H ws vs → vs = ns.map V.bl
  | [], _, ns, h, r => by simp only [isBls] at h; cases h; cases r; rfl
  | w :: ws, _, ns, h, r => by
    cases r with
    | cons r1 r2 =>
      cases r1 with
      | bl i =>
        simp only [isBls] at h
        cases q : isBls ws with
        | none => rw [q] at h; cases h
        | some ms =>
          rw [q] at h
          cases h
          rw [isBls_ok q r2]
          rfl
      | _ => cases h
theorem c_all (hc : X.calm = true) : CallI G X (.builtin "all") fAll := by
  refine callI_of (cr_all hc) fun p ρ s H xs vs Q rp r h => ?_
  match xs, vs, r, h with
  | [], _, _, h => exact h.elim
  | _ :: _ :: _, _, _, h => exact h.elim
  | [w], [v], .cons r1 .nil, h =>
    unfold fAll at h
    dsimp only at h
    split at h
    · rename_i ws e
      obtain ⟨a, vs, rfl, r2, r3⟩ := cellL_at (K := X.K) rp r1 e
      split at h
      · rename_i ns e2
        obtain rfl := isBls_ok e2 r2
        exact ⟨a, ns, rfl, r3, po_v h rp (.bl _)⟩
      · exact h.elim
    · exact h.elim
end
end CC
set_option Elab.async false
set_option linter.all false
set_option maxRecDepth 100000
namespace CC
open PySem PySem.Spec PyProof.Rows L2
inductive TK where
  | non | bl | int | str | lst | tup | dct | own (c : Nat)
def tyW (p : Hh) (s : S) : W → Option TK
  | .non => some .non
  | .bl _ => some .bl
  | .int _ => some .int
  | .str _ => some .str
  | .tup _ => some .tup
  | .ref n => match rd p s n with
    | some (.lst _) => some .lst
    | some (.frz _) => some .lst
    | some (.dct _) => some .dct
    | some (.dtt _) => some .dct
    | some (.ins c _) => some (.own c)
    | none => none
def tyVal (G : GE) : TK → Value
  | .non => .type "NoneType"
  | .bl => .type "bool"
  | .int => .type "int"
  | .str => .type "str"
  | .lst => .type "list"
  | .tup => .type "tuple"
  | .dct => .type "dict"
  | .own c => .ref (G.cls c)
def lkB (c : Nat) : List (Nat × Bool) → Option Bool
  | [] => none
  | (d, b) :: r => if c = d then some b else lkB c r
def qT (a0 a1 a2 a3 a4 a5 a6 : Bool) (ow : List (Nat × Bool)) : TK → Option Bool
  | .non => some a0
  | .bl => some a1
  | .int => some a2
  | .str => some a3
  | .lst => some a4
  | .tup => some a5
  | .dct => some a6
  | .own c => lkB c ow
def qInt := qT false true true false false false false
def qBool := qT false true false false false false false
def qTup := qT false false false false false true false
def qLst := qT false false false false true false false
def qStr := qT false false false true false false false
def eIsi (p : Hh) (q : TK → Option Bool) (ma : Lo → S → R W) : Lo → S → R W := fun l s => (ma l s).bind fun w s1 => match tyW p s1 w with
  | some t => (match q t with
    | some b => .ok (.bl b) s1
    | none => .bad)
  | none => .bad
structure CI_ (G : GE) (K : PySem.W.Frag) (c : Nat) : Prop where
  cl : Cls K (G.cls c)
  ha : PySem.W.findIn K (.ref (G.cls c)) "__class__" = some (some (.builtin "object.__class__"))
  hn : PySem.W.specialIn K (.builtin "object.__class__") "__get__" = some (some (.builtin "getset_descriptor.__get__"))
  ht : PySem.W.takesIn K (.builtin "object.__class__") = some true
  hm : PySem.W.mroIn K (G.cls c) (.type "object") = some true
structure QI (G : GE) (K : PySem.W.Frag) (cv : Value) (q : TK → Option Bool) : Prop where
  an : ∀ t b, q t = some b → PySem.W.kitOne K (tyVal G t) cv = some b
  ow : ∀ c b, q (.own c) = some b → CI_ G K c
theorem qi_ty {G : GE} {K : PySem.W.Frag} {T : String} {a0 a1 a2 a3 a4 a5 a6 : Bool} {ow : List (Nat × Bool)} (h0 : kitB "NoneType" T = some a0) (h1 : kitB "bool" T = some a1) (h2 : kitB "int" T = some a2) (h3 : kitB "str" T = some a3) (h4 : kitB "list" T = some a4) (h5 : kitB "tuple" T = some a5) (h6 : kitB "dict" T = some a6)
    (h : ∀ c b, lkB c ow = some b → CI_ G K c ∧ PySem.W.kitOne K (.ref (G.cls c)) (.type T) = some b) : QI G K (.type T) (qT a0 a1 a2 a3 a4 a5 a6 ow) where
  an := fun t b e => by
    cases t with
    | non => cases e; exact kit_ty h0
    | bl => cases e; exact kit_ty h1
    | int => cases e; exact kit_ty h2
    | str => cases e; exact kit_ty h3
    | lst => cases e; exact kit_ty h4
    | tup => cases e; exact kit_ty h5
    | dct => cases e; exact kit_ty h6
    | own c => exact (h c b e).2
  ow := fun c b e => (h c b e).1
section
variable {G : GE} {X : Cx} {ρ : List Addr} {H : Hp} {p : Hh} {s : S} {E : WX}
theorem ty_of {cv : Value} {q : TK → Option Bool} {K : PySem.W.Frag} (F : QI G K cv q) {w : W} {v : V} {t : TK} {b : Bool} (rp : Rep G ρ p s H) (r : RV G ρ H w v) (h : tyW p s w = some t) (hq : q t = some b) : TyX K H v (tyVal G t) := by
  cases r with
  | non => cases h; exact .base .non
  | bl b => cases h; exact .base (.bl _)
  | int i => cases h; exact .base (.int _)
  | str z => cases h; exact .base (.str _)
  | @tup a ws vs na ha r => cases h; exact .base (.tup ha)
  | @ref n a e =>
    simp only [tyW] at h
    cases z : rd p s n with
    | none => rw [z] at h; cases h
    | some o =>
      rw [z] at h
      obtain ⟨u, hu, ro⟩ := rp.at z e
      cases ro with
      | lst r => cases h; exact .base (.lst hu)
      | frz => cases h; exact .base (.frz hu)
      | dK r r2 => cases h; exact .base (.dK hu)
      | dT r r2 => cases h; exact .base (.dT hu)
      | @ins c fs gs dx k r =>
        cases h
        have C := F.ow c b hq
        exact .base (.ins hu C.cl C.ha C.hn C.ht C.hm)
variable {a tn : Expr} {ma : Lo → S → R W} {pos p' : Pos}
theorem se_isi {q : TK → Option Bool} {c : V} {cv : Value} (F : QI G X.K cv q) (hcv : ClsV c cv) (hm : X.mg "isinstance" = none) (ha : SE G p E X a ma) (ht : PE X tn (tC c)) (hg : Gl X "isinstance" := by rfl)
    (hs : starEach (a :: [tn]) X.env = (false, eval a X.env) :: starEach [tn] X.env := by rfl) (hs2 : starEach (tn :: []) X.env = (false, eval tn X.env) :: starEach [] X.env := by rfl)
    (hpl : (backTo pos (starEach [tn] X.env)).any (·.1) = false := by rfl) : SE G p E X (.Call (.Name "isinstance" p') [a, tn] [] pos) (eIsi p q ma) :=
  PE_imp (pe_callB (x := "isinstance") call_isi hg hm (by decide +kernel) (pa_cons ha (pa_cons ht pa_nil hs2) hs) (by decide) (by decide) hs hpl) fun σ H Q ⟨ρ, l, s, rl, rp, h⟩ => by
    unfold eIsi at h
    refine ⟨ρ, l, s, rl, rp, PoA.bind h fun w s1 ρ1 H1 v x1 rp1 rv1 h1 => ?_⟩
    cases z : tyW p s1 w with
    | none => rw [z] at h1; exact h1.elim
    | some t =>
      rw [z] at h1
      dsimp only at h1
      cases z2 : q t with
      | none => rw [z2] at h1; exact h1.elim
      | some b =>
        rw [z2] at h1
        exact ⟨v, c, tyVal G t, cv, b, rfl, hcv, ty_of F rp1 rv1 z z2, F.an t b z2, h1 ρ1 H1 _ Ex.rfl' rp1 (.bl b)⟩
theorem se_isiT {q : TK → Option Bool} {T : String} {x : Str} {q' : Pos} (F : QI G X.K (.type T) q) (hm : X.mg "isinstance" = none) (hmx : X.mg x = none) (ha : SE G p E X a ma) (hv : bootBuiltins x = some (.type T) := by decide +kernel) (hg2 : Gl X x := by rfl) (hn : x ≠ "__name__" := by decide) (hdb : (x == ("__debug__" : Str)) = false := by decide) (hg : Gl X "isinstance" := by rfl)
    (hs : starEach (a :: [.Name x q']) X.env = (false, eval a X.env) :: starEach [.Name x q'] X.env := by rfl) (hs2 : starEach (.Name x q' :: []) X.env = (false, eval (.Name x q') X.env) :: starEach [] X.env := by rfl)
    (hpl : (backTo pos (starEach [.Name x q'] X.env)).any (·.1) = false := by rfl) : SE G p E X (.Call (.Name "isinstance" p') [a, .Name x q'] [] pos) (eIsi p q ma) :=
  se_isi F (.ty T) hm ha (pe_bltn hg2 hmx hv rfl hn hdb) hg hs hs2 hpl
end
section
variable {G : GE} {K : PySem.W.Frag}
theorem q_int : QI G K (.type "int") (qInt []) := qi_ty (by decide +kernel) (by decide +kernel) (by decide +kernel) (by decide +kernel) (by decide +kernel) (by decide +kernel) (by decide +kernel) fun c b e => nomatch e
theorem q_bool : QI G K (.type "bool") (qBool []) := qi_ty (by decide +kernel) (by decide +kernel) (by decide +kernel) (by decide +kernel) (by decide +kernel) (by decide +kernel) (by decide +kernel) fun c b e => nomatch e
theorem q_tup : QI G K (.type "tuple") (qTup []) := qi_ty (by decide +kernel) (by decide +kernel) (by decide +kernel) (by decide +kernel) (by decide +kernel) (by decide +kernel) (by decide +kernel) fun c b e => nomatch e
end
end CC
set_option Elab.async false
set_option linter.all false
set_option maxRecDepth 100000
namespace CC
open PySem PySem.Spec PyProof.Rows L2
def keyW : W → Option Key
  | .int i => some (.inl i)
  | .str z => some (.inr z)
  | _ => none
def keysW : W → Option (List Key)
  | .tup ws => mapO keyW ws
  | _ => none
section
variable {κ : Type} [DecidableEq κ]
def valW (k : κ) : List (κ × W) → Option W
  | [] => none
  | (j, w) :: r => if j = k then some w else valW k r
def setW (k : κ) (w : W) : List (κ × W) → List (κ × W)
  | [] => []
  | (j, u) :: r => if j = k then (j, w) :: setW k w r else (j, u) :: setW k w r
def hasW (k : κ) : List (κ × W) → Bool
  | [] => false
  | (j, _) :: r => if j = k then true else hasW k r
def putKW (kvs : List (κ × W)) (k : κ) (w : W) : List (κ × W) := if hasW k kvs then setW k w kvs else kvs ++ [(k, w)]
section
variable {G : GE} {ρ : List Addr} {H : Hp}
theorem valW_ok {k : κ} : ∀ {kvs : List (κ × W)} {ks : List (κ × V)}, kvs.map (·.1) = ks.map (·.1) → RVs G ρ H (kvs.map (·.2)) (ks.map (·.2)) → (valW k kvs = none → valV ks k = none) ∧ ∀ w, valW k kvs = some w → ∃ v, valV ks k = some v ∧ RV G ρ H w v
  | [], [], _, _ => ⟨fun _ => rfl, fun w h => nomatch h⟩
  | [], _ :: _, h, _ => by simp at h
  | _ :: _, [], h, _ => by simp at h
  | (j, w) :: r, (j', v) :: r', h, q => by
    simp only [List.map_cons, List.cons.injEq] at h
    obtain ⟨rfl, h⟩ := h
    cases q with
    | cons q1 q2 =>
      simp only [valW]
      by_cases e : j = k
      · rw [if_pos e, valV_pos (p := (j, v)) e]
        exact ⟨(fun z => nomatch z), fun w' z => by cases z; exact ⟨v, rfl, q1⟩⟩
      · rw [if_neg e, valV_neg (p := (j, v)) e]
        exact valW_ok h q2
theorem hasW_ok {k : κ} : ∀ {kvs : List (κ × W)} {ks : List (κ × V)}, kvs.map (·.1) = ks.map (·.1) → hasW k kvs = ks.any fun kv => decide (kv.1 = k)
  | [], [], _ => rfl
  | [], _ :: _, h => by simp at h
  | _ :: _, [], h => by simp at h
  | (j, w) :: r, (j', v) :: r', h => by
    simp only [List.map_cons, List.cons.injEq] at h
    obtain ⟨rfl, h⟩ := h
    simp only [hasW, List.any_cons, hasW_ok h]
    by_cases e : j = k <;> simp [e]
theorem setW_ok {k : κ} {w : W} {v : V} (rv : RV G ρ H w v) : ∀ {kvs : List (κ × W)} {ks : List (κ × V)}, kvs.map (·.1) = ks.map (·.1) → RVs G ρ H (kvs.map (·.2)) (ks.map (·.2)) →
    (setW k w kvs).map (·.1) = (ks.map (fun kv => if kv.1 = k then (kv.1, v) else kv)).map (·.1) ∧ RVs G ρ H ((setW k w kvs).map (·.2)) ((ks.map (fun kv => if kv.1 = k then (kv.1, v) else kv)).map (·.2))
  | [], [], _, _ => ⟨rfl, .nil⟩
  | [], _ :: _, h, _ => by simp at h
  | _ :: _, [], h, _ => by simp at h
  | (j, u) :: r, (j', v') :: r', h, q => by
    simp only [List.map_cons, List.cons.injEq] at h
    obtain ⟨rfl, h⟩ := h
    cases q with
    | cons q1 q2 =>
      obtain ⟨h1, h2⟩ := setW_ok rv h q2
      simp only [setW, List.map_cons]
      by_cases e : j = k
      · rw [if_pos e, if_pos e]
        exact ⟨by rw [List.map_cons, h1], .cons rv h2⟩
      · rw [if_neg e, if_neg e]
        exact ⟨by rw [List.map_cons, h1], .cons q1 h2⟩
theorem putKW_ok {k : κ} {w : W} {v : V} (rv : RV G ρ H w v) {kvs : List (κ × W)} {ks : List (κ × V)} (h : kvs.map (·.1) = ks.map (·.1)) (q : RVs G ρ H (kvs.map (·.2)) (ks.map (·.2))) :
    (putKW kvs k w).map (·.1) = (putK ks k v).map (·.1) ∧ RVs G ρ H ((putKW kvs k w).map (·.2)) ((putK ks k v).map (·.2)) := by
  unfold putKW putK
  rw [hasW_ok h]
  by_cases e : (ks.any fun kv => decide (kv.1 = k)) = true
  · rw [if_pos e, if_pos e]; exact setW_ok rv h q
  · rw [if_neg e, if_neg e]
    refine ⟨by simp [h], ?_⟩
    rw [List.map_append, List.map_append]
    exact q.app (.cons rv .nil)
end
end
def gDic (p : Hh) (o i : W) (s : S) : Option (Option W) := match o with
  | .ref n => (match rd p s n with
    | some (.dct kvs) => (match keyW i with | some k => some (valW k kvs) | none => none)
    | some (.dtt kvs) => (match keysW i with | some k => some (valW k kvs) | none => none)
    | _ => none)
  | _ => none
def gIx (p : Hh) (o i : W) (s : S) : O2 := match o with
  | .str z => (match i with
    | .int j => if z.length ≤ 1000000 then (match atI z.cps.toList j with | some c => some (.str ⟨#[c]⟩, s) | none => none) else none
    | _ => none)
  | o => (match seqItems p s o with
    | some ws => (match i with
      | .int j => (match atI ws j with | some w => some (w, s) | none => none)
      | _ => none)
    | none => (match gDic p o i s with
      | some (some w) => some (w, s)
      | _ => none))
def eIx (p : Hh) (mo mi : Lo → S → R W) : Lo → S → R W := fun l s => (mo l s).bind fun o s1 => (mi l s1).bind fun i s2 => R.ofO (gIx p o i s2)
section
variable {G : GE} {X : Cx} {ρ : List Addr} {H : Hp} {p : Hh} {s : S} {E : WX} {a b o i : Expr} {ma mb mo mi : Lo → S → R W} {pos : Pos}
theorem atI_rvs {ws : List W} {vs : List V} {j : Int} {w : W} (r : RVs G ρ H ws vs) (h : atI ws j = some w) : ∃ v, atI vs j = some v ∧ RV G ρ H w v := by
  unfold atI at h ⊢
  rw [r.len] at h
  cases e : ixN vs.length j with
  | none => rw [e] at h; cases h
  | some k =>
    rw [e] at h
    exact r.get h
theorem key_ok {w : W} {v : V} {k : Key} (r : RV G ρ H w v) (h : keyW w = some k) : v = kV k := by
  cases r <;> first | (cases h; rfl) | cases h
theorem keyW_all : ∀ {ws : List W} {vs : List V} {ks : List Key}, RVs G ρ H ws vs → mapO keyW ws = some ks → vs = ks.map kV
  | [], _, ks, r, h => by simp only [mapO] at h; cases h; cases r; rfl
  | w :: ws, _, ks, r, h => by
    simp only [mapO] at h
    cases r with
    | cons r1 r2 =>
      cases q : keyW w with
      | none => rw [q] at h; cases h
      | some k =>
        rw [q] at h
        dsimp only at h
        cases q2 : mapO keyW ws with
        | none => rw [q2] at h; cases h
        | some ks' =>
          rw [q2] at h
          cases h
          rw [key_ok r1 q, keyW_all r2 q2]
          rfl
theorem keys_ok {w : W} {v : V} {k : List Key} (r : RV G ρ H w v) (h : keysW w = some k) : ∃ b, v = .ref b ∧ H b = some (.tup (k.map kV)) := by
  cases r with
  | @tup a ws vs na ha r =>
    simp only [keysW] at h
    rw [keyW_all r h] at ha
    exact ⟨a, rfl, ha⟩
  | _ => cases h
theorem dic_at {o i : W} {ov iv : V} {r : Option W} (rp : Rep G ρ p s H) (ro : RV G ρ H o ov) (ri : RV G ρ H i iv) (h : gDic p o i s = some r) : ∃ a r', ov = .ref a ∧ DGet H a iv r' ∧ (r = none → r' = none) ∧ ∀ w, r = some w → ∃ v, r' = some v ∧ RV G ρ H w v := by
  cases ro with
  | @ref n a e =>
    simp only [gDic] at h
    cases z : rd p s n with
    | none => rw [z] at h; cases h
    | some ob =>
      rw [z] at h
      obtain ⟨u, hu, q⟩ := rp.at z e
      cases q with
      | @dK kvs ks q1 q2 =>
        dsimp only at h
        cases z2 : keyW i with
        | none => rw [z2] at h; cases h
        | some k =>
          rw [z2] at h
          cases h
          obtain ⟨h1, h2⟩ := valW_ok (k := k) q1 q2
          rw [key_ok ri z2]
          exact ⟨a, _, rfl, DGet.k hu, h1, h2⟩
      | @dT kvs ks q1 q2 =>
        dsimp only at h
        cases z2 : keysW i with
        | none => rw [z2] at h; cases h
        | some k =>
          rw [z2] at h
          cases h
          obtain ⟨h1, h2⟩ := valW_ok (k := k) q1 q2
          obtain ⟨b, rfl, hb⟩ := keys_ok ri z2
          exact ⟨a, _, rfl, DGet.t hu hb, h1, h2⟩
      | _ => cases h
  | _ => cases h
theorem PE_or {e : Expr} {t t' : TE} (h : PE X e t) (h' : PE X e t') : PE X e (fun σ H Q => t σ H Q ∨ t' σ H Q) := ⟨fun pins s σ H Q I w => w.elim (h.run pins s σ H Q I) (h'.run pins s σ H Q I)⟩
theorem se_ix (hu : X.A.units + 1 < cLine) (ho : SE G p E X a mo) (hi : SE G p E X b mi) (hs : ∀ o i, subscripted b false o i = operate [o, i] (getItem o i) := by intro _ _; rfl) : SE G p E X (.Subscript a b pos) (eIx p mo mi) := by
  refine ⟨fun pins s' σ H Q I ⟨ρ, l, s, rl, rp, h⟩ => ?_⟩
  unfold eIx at h
  refine (PE_or (pe_ix (pos := pos) ix_seq ho hi hs) (pe_dget (pos := pos) hu ho hi hs)).run pins s' σ H Q I ?_
  cases eo : mo l s with
  | bad => rw [eo] at h; exact h.elim
  | exc c w s1 =>
    refine .inl ⟨ρ, l, s, rl, rp, ?_⟩
    rw [eo] at h ⊢
    exact h
  | ok o1 s1 =>
    rw [eo] at h
    simp only [CC.R.bind] at h
    cases ei : mi l s1 with
    | bad => rw [ei] at h; exact h.elim
    | exc c w s2 =>
      refine .inl ⟨ρ, l, s, rl, rp, ?_⟩
      rw [eo]
      refine fun ρ1 H1 v x1 rp1 rv1 => ⟨ρ1, l, s1, rl.mono x1, rp1, ?_⟩
      rw [ei] at h ⊢
      exact PoA.base h x1
    | ok i1 s2 =>
      rw [ei] at h
      dsimp only at h
      have hd : (∃ w, gDic p o1 i1 s2 = some (some w) ∧ gIx p o1 i1 s2 = some (w, s2)) ∨ (∃ z j c, o1 = .str z ∧ i1 = .int j ∧ z.length ≤ 1000000 ∧ atI z.cps.toList j = some c ∧ gIx p o1 i1 s2 = some (.str ⟨#[c]⟩, s2)) ∨ (∃ ws j w, seqItems p s2 o1 = some ws ∧ i1 = .int j ∧ atI ws j = some w ∧ gIx p o1 i1 s2 = some (w, s2)) := by
        cases eg : gIx p o1 i1 s2 with
        | none => rw [eg] at h; exact h.elim
        | some r =>
          unfold gIx at eg
          split at eg
          · split at eg
            · split at eg
              · split at eg
                · rename_i hl _ c ec
                  cases eg
                  exact .inr (.inl ⟨_, _, _, rfl, rfl, hl, ec, rfl⟩)
                · cases eg
              · cases eg
            · cases eg
          · split at eg
            · rename_i ws ew
              split at eg
              · split at eg
                · rename_i w ea
                  cases eg
                  exact .inr (.inr ⟨_, _, _, ew, rfl, ea, rfl⟩)
                · cases eg
              · cases eg
            · split at eg
              · rename_i w ed
                cases eg
                exact .inl ⟨w, ed, rfl⟩
              · cases eg
      rcases hd with ⟨w, ed, eg⟩ | hd
      · refine .inr ⟨ρ, l, s, rl, rp, ?_⟩
        rw [eo]
        refine fun ρ1 H1 v x1 rp1 rv1 => ⟨ρ1, l, s1, rl.mono x1, rp1, ?_⟩
        rw [ei]
        refine fun ρ2 H2 v2 x2 rp2 rv2 => ?_
        obtain ⟨a', r', rfl, g, _, g2⟩ := dic_at rp2 (rv1.mono x2) rv2 ed
        obtain ⟨v3, rfl, rv3⟩ := g2 w rfl
        rw [eg] at h
        exact ⟨a', v3, rfl, g, h ρ2 H2 _ (x1.trans x2) rp2 rv3⟩
      · refine .inl ⟨ρ, l, s, rl, rp, ?_⟩
        rw [eo]
        refine fun ρ1 H1 v x1 rp1 rv1 => ⟨ρ1, l, s1, rl.mono x1, rp1, ?_⟩
        rw [ei]
        refine fun ρ2 H2 v2 x2 rp2 rv2 => ?_
        have rv1 := rv1.mono x2
        rcases hd with ⟨z, j, c, rfl, rfl, hl, ec, eg⟩ | ⟨ws, j, w, ew, rfl, ea, eg⟩
        · cases rv1; cases rv2
          rw [eg] at h
          exact .inr (.inr ⟨z, j, c, rfl, rfl, million hl, ec, h ρ2 H2 _ (x1.trans x2) rp2 (.str _)⟩)
        · obtain ⟨a', vs, rfl, r2, r3⟩ := seq_at (K := X.K) rp2 rv1 ew
          cases rv2
          obtain ⟨v3, e3, rv3⟩ := atI_rvs r2 ea
          rw [eg] at h
          have q := h ρ2 H2 _ (x1.trans x2) rp2 rv3
          rcases r3 with r3 | ⟨r3, _⟩
          · exact .inl ⟨a', vs, j, v3, rfl, rfl, r3, e3, q⟩
          · exact .inr (.inl ⟨a', vs, j, v3, rfl, rfl, r3, e3, q⟩)
end
end CC
set_option Elab.async false
set_option linter.all false
set_option maxRecDepth 100000
namespace CC
open PySem PySem.Spec PyProof.Rows L2
def cutW (xs : List W) (lo hi : Option Int) : List W := (xs.drop (HT.sIx xs.length 0 lo)).take (HT.sIx xs.length xs.length hi - HT.sIx xs.length 0 lo)
abbrev MO := Lo → S → R (Option Int)
def oNo : MO := fun _ s => .ok none s
def oSo (ma : Lo → S → R W) : MO := fun l s => (ma l s).bind fun w s1 => match w with
  | .int i => .ok (some i) s1
  | _ => .bad
def gSl (p : Hh) (o : W) (lo hi : Option Int) (s : S) : O2 := match o with
  | .tup ws => some (.tup (cutW ws lo hi), s)
  | .ref n => (match cellItems p s n with
    | some ws => some (.ref (nxt p s), al s (.lst (cutW ws lo hi)))
    | none => none)
  | _ => none
def eSl (p : Hh) (mo : Lo → S → R W) (ml mh : MO) : Lo → S → R W := fun l s => (mo l s).bind fun o s1 => (ml l s1).bind fun lo s2 => (mh l s2).bind fun hi s3 => R.ofO (gSl p o lo hi s3)
def gSetX (p : Hh) (o i w : W) (s : S) : Option S := match o with
  | .ref n => (match rd p s n with
    | some (.lst ws) => (match i with
      | .int j => (match ixN ws.length j with | some k => some (wr p s n (.lst (ws.set k w))) | none => none)
      | _ => none)
    | some (.dct kvs) => (match keyW i with | some k => if kvs.length < 1000000 then some (wr p s n (.dct (putKW kvs k w))) else none | none => none)
    | some (.dtt kvs) => (match keysW i with | some k => if kvs.length < 1000000 then some (wr p s n (.dtt (putKW kvs k w))) else none | none => none)
    | _ => none)
  | _ => none
def eBm (c : Hh → S → W → Bool) (f : Hh → W → List W → S → O2) (p : Hh) (mo : Lo → S → R W) (mr : Lo → S → R (List W)) : Lo → S → R W := fun l s => (mo l s).bind fun o s1 => if c p s1 o then (mr l s1).bind fun xs s2 => R.ofO (f p o xs s2) else .bad
def isLst (p : Hh) (s : S) (w : W) : Bool := match cellL p s w with
  | some _ => true
  | none => false
def fAppend (p : Hh) (o : W) (xs : List W) (s : S) : O2 := match o, xs with
  | .ref n, [w] => (match rd p s n with
    | some (.lst ws) => if ws.length < 1000000 then some (.non, wr p s n (.lst (ws ++ [w]))) else none
    | _ => none)
  | _, _ => none
def fPop (p : Hh) (o : W) (xs : List W) (s : S) : O2 := match o, xs with
  | .ref n, [] => (match rd p s n with
    | some (.lst ws) => (match ws[ws.length - 1]? with | some w => some (w, wr p s n (.lst ws.dropLast)) | none => none)
    | _ => none)
  | _, _ => none
section
variable {G : GE} {X : Cx} {ρ : List Addr} {H : Hp} {p : Hh} {s : S} {E : WX} {a b o i e : Expr} {es : List Expr} {ma mb mo mi : Lo → S → R W} {mr : Lo → S → R (List W)} {pos apos cpos : Pos} {ml mh : MO} {lo hi : Option Expr}
def SO (G : GE) (p : Hh) (E : WX) (X : Cx) (e : Option Expr) (m : MO) : Prop := PO X e (fun σ H Q => ∃ ρ l s, RL G ρ H l σ ∧ Rep G ρ p s H ∧ PoA G p ρ H (fun _ _ a b => a = b) (m l s) Q (fun c d H' => E c d σ H'))
theorem PO_imp {e : Option Expr} {t t' : TO} (h : PO X e t) (i : ∀ σ H Q, t' σ H Q → t σ H Q) : PO X e t' := ⟨fun pins s σ H Q I w => h.run pins s σ H Q I (i σ H Q w)⟩
theorem so_no : SO G p E X none oNo := PO_imp po_none fun σ H Q ⟨ρ, l, s, rl, rp, h⟩ => h ρ H none Ex.rfl' rp rfl
theorem so_so (ha : SE G p E X a ma) : SO G p E X (some a) (oSo ma) := PO_imp (po_some ha) fun σ H Q ⟨ρ, l, s, rl, rp, h⟩ => by
  unfold oSo at h
  refine ⟨ρ, l, s, rl, rp, PoA.bind h fun w s1 ρ1 H1 v x1 rp1 rv1 h1 => ?_⟩
  cases rv1 with
  | int i => exact ⟨i, rfl, h1 ρ1 H1 _ Ex.rfl' rp1 rfl⟩
  | _ => exact h1.elim
theorem cutW_ok {ws : List W} {vs : List V} (r : RVs G ρ H ws vs) (lo hi : Option Int) : RVs G ρ H (cutW ws lo hi) (cutV vs lo hi) := by
  unfold cutW cutV
  rw [r.len]
  exact (r.drop _).take _
theorem se_sl {p2 : Pos} (ho : SE G p E X a mo) (hl : SO G p E X lo ml) (hh : SO G p E X hi mh) : SE G p E X (.Subscript a (.Slice lo hi none p2) pos) (eSl p mo ml mh) :=
  PE_imp (pe_slice (sl_list.or sl_tupA) ho hl hh) fun σ H Q ⟨ρ, l, s, rl, rp, h⟩ => by
    unfold eSl at h
    refine ⟨ρ, l, s, rl, rp, PoA.bind h fun w s1 ρ1 H1 v x1 rp1 rv1 h1 => ⟨ρ1, l, s1, rl.mono x1, rp1, PoA.bind h1 fun lo' s2 ρ2 H2 v2 x2 rp2 rv2 h2 => ⟨ρ2, l, s2, (rl.mono x1).mono x2, rp2, PoA.bind h2 fun hi' s3 ρ3 H3 v3 x3 rp3 rv3 h3 => ?_⟩⟩⟩
    subst rv2 rv3
    have h3 := po_of h3
    have rv1 := (rv1.mono x2).mono x3
    unfold gSl at h3
    cases rv1 with
    | @tup a' ws vs na ha r =>
      refine .inr ⟨a', vs, rfl, SqT.of ha, fun hw => ?_, fun hw q hq => po_tup rp3 (cutW_ok r lo' hi') h3 hq⟩
      have e : cutV vs lo' hi' = vs := by
        unfold cutV
        rw [hw.1, hw.2]
        simp
      have r2 := cutW_ok r lo' hi'
      rw [e] at r2
      exact po_v h3 rp3 (.tup na ha r2)
    | @ref n a' en =>
      dsimp only at h3
      cases z : cellItems p s3 n with
      | none => rw [z] at h3; exact h3.elim
      | some ws =>
        rw [z] at h3
        obtain ⟨vs, hs, r⟩ := cell_seq (K := X.K) rp3 z en
        exact .inl ⟨a', vs, rfl, hs, fun q hq => po_lst rp3 (cutW_ok r lo' hi') h3 hq⟩
    | _ => exact h3.elim
theorem po_wr {n : Nat} {a : Addr} {ob : Ob} {u : HO} {w : W} {v : V} {Q : VK} (rp : Rep G ρ p s H) (e : ρ[n]? = some a) (h : PoO G p ρ H (some (w, wr p s n ob)) Q) (hu : Ex ρ H ρ (upd H a u) → RO G ρ (upd H a u) ob u) (hv : Ex ρ H ρ (upd H a u) → RV G ρ (upd H a u) w v) : Q v (upd H a u) := by
  have x : Ex ρ H ρ (upd H a u) := ⟨⟨[], by simp⟩, fun _ h n => absurd h n, fun b o n h => by
    have nb : b ≠ a := fun z => n (by rw [z]; exact List.mem_of_getElem? e)
    rw [upd_ne nb]; exact h⟩
  obtain ⟨_, r2⟩ := rp.wr_ e (hu x)
  exact h ρ _ _ x r2 (hv x)
theorem s_setx (hu : X.A.units + 1 < cLine) : SetI G X gSetX := by
  intro p pins sh σ H ov iv v ov' iv' u Q I ro ri rv ⟨ρ, s, wo, wi, w, rp, r1, r2, r3, h⟩
  unfold gSetX at h
  cases r1 with
  | @ref n a e =>
    dsimp only at h
    cases z : rd p s n with
    | none => rw [z] at h; exact h.elim
    | some ob =>
      rw [z] at h
      obtain ⟨hu', hh, q⟩ := rp.at z e
      have x : ∀ u, Ex ρ H ρ (upd H a u) := fun u => ⟨⟨[], by simp⟩, fun _ h n => absurd h n, fun b o n h => by
        have nb : b ≠ a := fun z => n (by rw [z]; exact List.mem_of_getElem? e)
        rw [upd_ne nb]; exact h⟩
      cases q with
      | @lst ws vs r =>
        dsimp only at h
        cases r2 with
        | int j =>
          dsimp only at h
          cases ej : ixN ws.length j with
          | none => rw [ej] at h; exact h.elim
          | some k =>
            rw [ej] at h
            obtain ⟨x2, rp2⟩ := rp.wr_ (u := .lst (vs.set k v)) e (.lst ((r.mono (x _)).set k (r3.mono (x _))))
            exact set_list pins sh σ H _ _ v ov' iv' u Q I ro ri rv ⟨a, vs, j, k, rfl, rfl, hh, by rw [← r.len]; exact ej, h _ x2 rp2⟩
        | _ => exact h.elim
      | @dK kvs ks q1 q2 =>
        dsimp only at h
        cases ek : keyW wi with
        | none => rw [ek] at h; exact h.elim
        | some k =>
          rw [ek] at h
          dsimp only at h
          by_cases hl : kvs.length < 1000000
          · rw [if_pos hl] at h
            obtain ⟨y1, y2⟩ := putKW_ok (k := k) (r3.mono (x (.dK (putK ks k v)))) q1 (q2.mono (x _))
            obtain ⟨x2, rp2⟩ := rp.wr_ (u := .dK (putK ks k v)) e (.dK y1 y2)
            have hl2 : ks.length < sizeLine := by
              have e2 : kvs.length = ks.length := by simpa using congrArg List.length q1
              rw [← e2, sizeLine_eq]; omega
            have ekv := key_ok r2 ek
            subst ekv
            exact set_dict hu pins sh σ H _ _ v ov' iv' u Q I ro ri rv ⟨a, _, rfl, DPut.k hh hl2, h _ x2 rp2⟩
          · rw [if_neg hl] at h; exact h.elim
      | @dT kvs ks q1 q2 =>
        dsimp only at h
        cases ek : keysW wi with
        | none => rw [ek] at h; exact h.elim
        | some k =>
          rw [ek] at h
          dsimp only at h
          by_cases hl : kvs.length < 1000000
          · rw [if_pos hl] at h
            obtain ⟨y1, y2⟩ := putKW_ok (k := k) (r3.mono (x (.dT (putK ks k v)))) q1 (q2.mono (x _))
            obtain ⟨x2, rp2⟩ := rp.wr_ (u := .dT (putK ks k v)) e (.dT y1 y2)
            have hl2 : ks.length < sizeLine := by
              have e2 : kvs.length = ks.length := by simpa using congrArg List.length q1
              rw [← e2, sizeLine_eq]; omega
            obtain ⟨b', rfl, hb⟩ := keys_ok r2 ek
            exact set_dict hu pins sh σ H _ _ v ov' iv' u Q I ro ri rv ⟨a, _, rfl, DPut.t hh hb hl2, h _ x2 rp2⟩
          · rw [if_neg hl] at h; exact h.elim
      | _ => exact h.elim
  | _ => exact h.elim
def MtI (G : GE) (X : Cx) (id : String) (f : Hh → W → List W → S → O2) : Prop :=
  ∀ p, MtR X id (fun v vs H Q => ∃ ρ s w ws, Rep G ρ p s H ∧ RV G ρ H w v ∧ RVs G ρ H ws vs ∧ PoO G p ρ H (f p w ws s) Q)
theorem mtI_of {id : String} {r : V → List V → Hp → VK → Prop} {f : Hh → W → List W → S → O2} (hr : MtR X id r) (h : ∀ (p : Hh) (ρ : List Addr) (s : S) (H : Hp) (w : W) (ws : List W) (v : V) (vs : List V) (Q : VK), Rep G ρ p s H → RV G ρ H w v → RVs G ρ H ws vs → PoO G p ρ H (f p w ws s) Q → r v vs H Q) : MtI G X id f :=
  fun p pins s σ H v vs v' us Q I rv ru ⟨ρ, s0, w, ws, rp, r1, r2, q⟩ => hr pins s σ H v vs v' us Q I rv ru (h p ρ s0 H w ws v vs Q rp r1 r2 q)
def TyI (G : GE) (K : PySem.W.Frag) (T : String) (c : Hh → S → W → Bool) : Prop := ∀ (p : Hh) (ρ : List Addr) (s : S) (H : Hp) (w : W) (v : V), Rep G ρ p s H → RV G ρ H w v → c p s w = true → tyV K T v H
theorem ty_lst {K : PySem.W.Frag} : TyI G K "list" isLst := fun p ρ s H w v rp rv h => by
  unfold isLst at h
  cases z : cellL p s w with
  | none => rw [z] at h; cases h
  | some ws =>
    obtain ⟨a, vs, rfl, _, hs⟩ := cellL_at (K := K) rp rv z
    exact .inl ⟨rfl, vs, hs⟩
theorem se_bm {T id : String} {name : Str} {c : Hh → S → W → Bool} {f : Hh → W → List W → S → O2} (pa : PlainAttrs T) (slot : Slot T name id) (hty : typeOf (.builtin id) = pure (.type "method_descriptor")) (hc : TyI G X.K T c) (hm : MtI G X id f) (ho : SE G p E X o mo) (ha : SA G p E X (e :: es) mr)
    (hbase : attributeBase o name X.env (eval o X.env) = eval o X.env := by rfl)
    (hfew : ((backTo cpos (starEach (e :: es) X.env)).all (fun x => !x.1) && (backToKw cpos (keywordEach [] X.env)).all (fun x => x.1.isSome)
      && decide ((e :: es).length + ([] : List Keyword).length + (if ([] : List Keyword).isEmpty then 0 else 1) < 30)) = true := by rfl)
    (hline : (apos.endLine == cpos.line) = true := by rfl) (hs : starEach (e :: es) X.env = (false, eval e X.env) :: starEach es X.env := by rfl) (hplain : (backTo cpos (starEach es X.env)).any (·.1) = false := by rfl) :
    SE G p E X (.Call (.Attribute o name apos) (e :: es) [] cpos) (eBm c f p mo mr) :=
  PE_imp (pe_bm pa slot hty (hm p) ho ha hbase hfew hline hs hplain) fun σ H Q ⟨ρ, l, s, rl, rp, h⟩ => by
    unfold eBm at h
    refine ⟨ρ, l, s, rl, rp, PoA.bind h fun w s1 ρ1 H1 v x1 rp1 rv1 h1 => ?_⟩
    split at h1
    · rename_i hcc
      exact ⟨hc p ρ1 s1 H1 w v rp1 rv1 hcc, ρ1, l, s1, rl.mono x1, rp1, PoA.bind h1 fun xs s2 ρ2 H2 vs x2 rp2 rv2 h2 => ⟨ρ2, s2, w, xs, rp2, rv1.mono x2, rv2, po_of h2⟩⟩
    · exact h1.elim
theorem se_bm0 {T id : String} {name : Str} {c : Hh → S → W → Bool} {f : Hh → W → List W → S → O2} (pa : PlainAttrs T) (slot : Slot T name id) (hty : typeOf (.builtin id) = pure (.type "method_descriptor")) (hc : TyI G X.K T c) (hm : MtI G X id f) (ho : SE G p E X o mo)
    (hbase : attributeBase o name X.env (eval o X.env) = eval o X.env := by rfl) (hline : (apos.endLine == cpos.line) = true := by rfl) :
    SE G p E X (.Call (.Attribute o name apos) [] [] cpos) (eBm c f p mo aNil) :=
  PE_imp (pe_bm0 pa slot hty (hm p) ho hbase hline) fun σ H Q ⟨ρ, l, s, rl, rp, h⟩ => by
    unfold eBm at h
    refine ⟨ρ, l, s, rl, rp, PoA.bind h fun w s1 ρ1 H1 v x1 rp1 rv1 h1 => ?_⟩
    split at h1
    · rename_i hcc
      exact ⟨hc p ρ1 s1 H1 w v rp1 rv1 hcc, ρ1, s1, w, [], rp1, rv1, .nil, po_of h1⟩
    · exact h1.elim
theorem m_append : MtI G X "list.append" fAppend := mtI_of mt_append fun p ρ s H w ws v vs Q rp r1 r2 h => by
  unfold fAppend at h
  split at h
  · rename_i n w1
    cases r1 with | ref e =>
    cases r2 with | cons q1 q2 =>
    cases q2
    split at h
    · rename_i xs hx
      split at h
      · rename_i hl
        obtain ⟨vs, hv, r⟩ := lst_at rp hx e
        refine ⟨_, vs, _, rfl, rfl, hv, by rw [← r.len, sizeLine_eq]; omega, po_wr rp e h (fun x => .lst ((r.mono x).app (.cons (q1.mono x) .nil))) fun _ => .non⟩
      · exact h.elim
    · exact h.elim
  · exact h.elim
theorem RVs.dropLast : ∀ {ws : List W} {vs : List V}, RVs G ρ H ws vs → RVs G ρ H ws.dropLast vs.dropLast
  | _, _, .nil => .nil
  | _, _, .cons h .nil => .nil
  | _, _, .cons h (.cons h' r) => .cons h (RVs.dropLast (.cons h' r))
theorem m_pop : MtI G X "list.pop" fPop := mtI_of mt_pop fun p ρ s H w ws v vs Q rp r1 r2 h => by
  unfold fPop at h
  split at h
  · rename_i n
    cases r1 with | ref e =>
    cases r2
    split at h
    · rename_i xs hx
      split at h
      · rename_i w hw
        obtain ⟨vs, hv, r⟩ := lst_at rp hx e
        obtain ⟨v, hv2, rv⟩ := r.get hw
        exact ⟨_, vs, v, rfl, rfl, hv, by rw [← r.len]; exact hv2, po_wr rp e h (fun x => .lst (r.mono x).dropLast) fun x => rv.mono x⟩
      · exact h.elim
    · exact h.elim
  · exact h.elim
end
end CC
set_option Elab.async false
set_option linter.all false
set_option maxRecDepth 100000
namespace CC
open PySem PySem.Spec PyProof.Rows L2
set_option maxHeartbeats 1000000 in
theorem enum_made {v : Value} {o : Obj} {H : Heap → Prop} (B : Begins v o H) :
    Meets (Builtin.«enumerate.__new__» ⟨[.type "enumerate", v], []⟩) (fun _ R s => H s.heap ∧ R (.ok (.ret (.ref (s.heap.push o).objs.size))) { s with heap := (s.heap.push o).push { cls := .type "enumerate", data := .fields #[.none, .bool false, .ref s.heap.objs.size, rawInt 0, .none, .none] } }) := .of_wp fun prog w A R s h => by
  obtain ⟨hp, g, d, tk, os⟩ := s
  obtain ⟨h1, h⟩ := h
  have hsub := sub_enumerate
  have qq : ∀ {A' : Around} {E Q : Value → Shared → Prop}, Q (.ref hp.objs.size) ⟨hp.push o, g, d, tk, os⟩ → wpAny (model prog w) A' (pyIter v) Q E ⟨hp, g, d, tk, os⟩ := fun z => B.iter prog w _ _ ⟨hp, g, d, tk, os⟩ _ h1 z
  wp_walk using qq
  refine wpAny_stack_any fun st => wpAny_pure ?_
  split
  · rename_i c _ _ _ _ _
    cases (c == Value.type "enumerate") <;> (wp_walk using qq; exact ⟨_, rfl, h⟩)
  · wp_walk using qq
    exact ⟨_, rfl, h⟩
theorem enum_call {prog : Program} {w : World} {A : Around} {E : Value → Shared → Prop} {s : Shared} {v : Value} {o : Obj} {H : Heap → Prop} {Q : Value → Shared → Prop} (B : Begins v o H) (h1 : H s.heap)
    (h : ∀ h', IsEnum h' (s.heap.objs.size + 1) s.heap.objs.size 0 .none → h'.get? s.heap.objs.size = some o → (∀ b u, s.heap.get? b = some u → h'.get? b = some u) → Q (.ref (s.heap.objs.size + 1)) { s with heap := h' }) : wpAny (model prog w) A (call (.type "enumerate") [v]) Q E s := by
  refine callType_new F.called_enumerate (by decide) (F.typeCall_enumerate_1 _) (F.newCall_enumerate_1 _) (fun obj => F.args_object_init_2 obj _) F.entry_enumerate_new (enum_made B) ⟨h1, ?_⟩
  have hz : (s.heap.push o).objs.size = s.heap.objs.size + 1 := Heap.size_push ..
  show _ ∧ _
  rw [hz]
  have g := Heap.get?_push_size (s.heap.push o) (o := { cls := .type "enumerate", data := .fields #[.none, .bool false, .ref s.heap.objs.size, rawInt 0, .none, .none] }) rfl
  rw [hz] at g
  exact ⟨⟨_, g, rfl⟩, h _ g (Heap.get?_push_of_some _ (Heap.get?_push_size _ B.free)) fun b u x => Heap.get?_push_of_some _ (Heap.get?_push_of_some _ x)⟩
theorem enumT_end {prog : Program} {w : World} {A : Around} {E : Value → Shared → Prop} {s : Shared} {e it t : Addr} {i : Nat} {items : Array Value} {old : Value} {Q : Option Value → Shared → Prop} (hh : A.handled = none) (he : IsEnum s.heap e it i old) (hit : s.heap.IsTupleIter it t i) (ht : s.heap.IsTuple t items) (hx : items[i]? = none)
    (hQ : ∀ h', Heap.ExtBut it s.heap h' → Q none { s with heap := h' }) : wpAny (model prog w) A (pyNext (.ref e)) Q E s := by
  have hT : s.TypeIs (.ref e) "enumerate" := ⟨_, he, rfl⟩
  unfold pyNext
  refine wpAny_bind (wpAny_attempt (wpAny_callSpecial?_slot (name := Str.ofString "__next__") hT F.slot_enumerate_next (wpAny_call_entry F.slot_enumerate_next hT F.entry_enumerate_next ?_ (F.args_enumerate_next_1 _))))
  show wpAny _ _ (field (.ref e) 2 >>= _) _ _ _
  refine wpAny_bind (wpAny_field he rfl (x := .ref it) rfl (wpAny_bind (wpAny_nextOf_tuple_end hh hit ht hx fun h' x g1 g2 => ?_)))
  obtain ⟨o, ho, hc⟩ := g2
  exact wpAny_bind (wpAny_isInstance (T := "StopIteration") (b := true) ⟨o, ho, hc⟩ isSubtype_stop (wpAny_pure (hQ _ g1)))
def ItU (a : Addr) : It :=
  ⟨fun i H => ∃ (xs : List V) (x : V), H a = some (.tup xs) ∧ xs[i]? = some x, fun i H v H' => ∃ T x, v = .ref T ∧ H T = none ∧ H' = upd H T (.tup [.int (i : Nat), x]) ∧ ∀ xs, H a = some (.tup xs) → xs[i]? = some x, fun i H => ∃ xs : List V, H a = some (.tup xs) ∧ xs.length ≤ i⟩
theorem turn_enumT {P : Program} {w : World} {K : PySem.W.Frag} {elts : List Expr} {kk : Nat} {tpos : Pos} (a e it : Addr) : Turn P w K (.Tuple elts kk tpos) (ItU a) [e, it] e (fun i h => (∃ old, IsEnum h e it ((i : Nat) : Int) old) ∧ h.IsTupleIter it a i ∧ e ≠ it) where
  mem := by simp
  obj := fun i h st b hb => by
    obtain ⟨⟨old, he⟩, ⟨o, ho, hc, hd⟩, _⟩ := st
    rcases (show b = e ∨ b = it by simpa using hb) with z | z
    · subst z; exact ⟨_, he, fun v q => nomatch q⟩
    · subst z; exact ⟨o, ho, fun v q => by rw [hd] at q; cases q⟩
  keep := fun i h h' st k => let ⟨⟨old, he⟩, hi, hne⟩ := st; ⟨⟨old, k e (by simp) _ he⟩, hi.at fun o q => k it (by simp) o q, hne⟩
  item := by
    intro X hP hw hK hc i pins s σ H E I hf st hg
    subst hP hw hK
    obtain ⟨⟨old, he⟩, hit, hne⟩ := st
    obtain ⟨xs, x, hq, hx⟩ := hg
    have nai : a ≠ it := ne_of_none hq (hf it (by simp)).1
    have nae : e ∉ [it, a] := by
      have : a ≠ e := ne_of_none hq (hf e (by simp)).1
      simp [hne, Ne.symm this]
    obtain ⟨its, rv, p, hz⟩ := I.tuple (xs := xs) (SqT.of hq)
    obtain ⟨u, hu, ru⟩ := rv.get hx
    have hi : i < its.toArray.size := by
      have := (List.getElem?_eq_some_iff.mp hu).1
      simpa using this
    have hel : e < s.heap.objs.size := Heap.lt_size he
    have hil : it < s.heap.objs.size := by obtain ⟨_, q, _⟩ := hit; exact Heap.lt_size q
    refine wpAny_pyNext_enum_itemD (Draws.tuple (A := X.A.in1) (I.ok.hd hc) it a nai its.toArray) he ⟨hit, p⟩ hi hne nae fun y h' tk hy ho hit' hT hsz hk => ?_
    have ey : y = u := by
      have e1 : its[i]? = some y := by simpa using hy
      rw [hu] at e1
      exact (Option.some.inj e1).symm
    subst ey
    refine ⟨_, rfl, wpAny_letOwnedTupleGo_enum (s := { s with heap := h', toks := tk + 1 }) ho fun h'' he' sb => ?_⟩
    have hT2 : h''.get? s.heap.objs.size = some { cls := .type "tuple", data := .seq #[.int i tk, y] } := (sb.2 _ (Nat.ne_of_gt hel)).trans hT
    have new : ObjOk X.prog X.w (upd H s.heap.objs.size (.tup [.int (i : Nat), x])) h'' s.heap.objs.size (.tup [.int (i : Nat), x]) := ⟨by show 2 ≤ sizeLine; decide, [.int i tk, y], .cons ⟨_, rfl⟩ (.cons ru .nil), ⟨_, hT2, rfl, _, rfl⟩⟩
    have I1 : Inv X pins σ (upd H s.heap.objs.size (.tup [.int (i : Nat), x])) { s with heap := h'', toks := tk + 1 } :=
      I.turnedNew (ch := [e, it]) (fun b ob hb q => (sb.2 b (fun z => hb (by simp [z]))).trans (hk b ob (fun z => hb (by simp [z])) (fun z => hb (by simp [z])) q)) hf (Nat.le_refl _) new
    refine ⟨.ref s.heap.objs.size, _, I1, rfl, ⟨_, x, rfl, I.hok.fresh (Nat.le_refl _), rfl, fun ys hy => by rw [hq] at hy; cases hy; exact hx⟩, ⟨⟨y, ?_⟩, hit'.1.at fun o q => (sb.2 it (Ne.symm hne)).trans q, hne⟩, fun b hb => ?_⟩
    · have e1 : ((i + 1 : Nat) : Int) = (i : Int) + 1 := by omega
      rw [e1]; exact he'
    · have hb' : b < s.heap.objs.size := by
        rcases (show b = e ∨ b = it by simpa using hb) with z | z
        · rw [z]; exact hel
        · rw [z]; exact hil
      rw [upd_ne (Nat.ne_of_lt hb')]
      exact (hf b hb).1
  done := by
    intro X hP hw hK hc i pins s σ H E I hf st hg
    subst hP hw hK
    obtain ⟨⟨old, he⟩, hit, hne⟩ := st
    obtain ⟨xs, hq, hx⟩ := hg
    obtain ⟨its, rv, p, hz⟩ := I.tuple (xs := xs) (SqT.of hq)
    obtain ⟨f0, f1, f2, f3, f4, f5⟩ := hf it (by simp)
    have hl := rv.length
    exact enumT_end (I.ok.hd hc) he hit p (by simp; omega) fun h' eb => ⟨rfl, I.turned (t' := s.toks) (fun b o hb q => eb b o hb q) f0 f1 f3 f4 f5⟩
  self := fun A i s Q E st h => let ⟨⟨_, he⟩, _⟩ := st; wpAny_pyIter_enum he h
end CC
set_option Elab.async false
set_option linter.all false
set_option maxRecDepth 100000
namespace CC
open PySem PySem.Spec PyProof.Rows L2
def iEnT (ta : TA) : TI := fun σ H R => ta σ H fun vs H1 => ∃ a xs, vs = [.ref a] ∧ H1 a = some (.tup xs) ∧ R (ItU a) H1
theorem pi_enumT {X : Cx} {e : Expr} {ta : TA} {p pos tpos : Pos} {elts : List Expr} {kk : Nat} (hg : Gl X "enumerate") (hm : X.mg "enumerate" = none) (ha : PA X [e] ta) (hs : starEach [e] X.env = [(false, eval e X.env)] := by rfl) :
    PI X (.Tuple elts kk tpos) (.Call (.Name "enumerate" p) [e] [] pos) (iEnT ta) := by
  refine ⟨fun pins s σ H R I h => ?_⟩
  refine Call_ (ld_blt I hg hm boot_enumerate (PyProof.Rows.callWith_type1 (thn (ha.run pos pins s σ H _ I h) fun us s1 ⟨vs, H1, I1, r1, q1⟩ => ?_) hs rfl))
  obtain ⟨a, xs, ex, hq, q⟩ := q1
  subst ex
  cases r1 with
  | cons r rr =>
    cases rr
    cases r
    obtain ⟨its, rv, p', hz⟩ := I1.tuple (xs := xs) (SqT.of hq)
    refine enum_call (begins_tuple a its.toArray) p' fun h' he hit hk => wpAny_pyIter_enum he ?_
    have I2 : Inv X pins σ H1 { s1 with heap := h' } := I1.kept (t' := s1.toks) hk
    refine ⟨s1.heap.objs.size + 1, [s1.heap.objs.size + 1, s1.heap.objs.size], _, _, H1, rfl, I2, turn_enumT a (s1.heap.objs.size + 1) s1.heap.objs.size, ⟨⟨.none, he⟩, ⟨_, hit, rfl, rfl⟩, Nat.succ_ne_self _⟩, fun b hb => ?_, q⟩
    have hle : s1.heap.objs.size ≤ b := by
      rcases (show b = s1.heap.objs.size + 1 ∨ b = s1.heap.objs.size by simpa using hb) with z | z
      · rw [z]; exact Nat.le_add_right _ _
      · rw [z]; exact Nat.le_refl _
    exact I1.fpOk hle (I1.hok.fresh hle)
def iEnm (ma : Lo → S → R W) (p : Hh) : Lo → S → R ItD := fun l s => (ma l s).bind fun w s1 => match w with
  | .ref n => (match cellItems p s1 n with | some _ => .ok (.enl n) s1 | none => .bad)
  | .tup ws => .ok (.ent ws) s1
  | _ => .bad
section
variable {G : GE} {p : Hh} {E : WX} {X : Cx} {ρ : List Addr} {H : Hp} {s : S}
theorem ri_ent {ws : List W} {vs : List V} {a : Addr} (na : a ∉ ρ) (h : H a = some (.tup vs)) (r : RVs G ρ H ws vs) : RI G p ρ H (.ent ws) (ItU a) where
  yes := fun i w s ρ1 H1 x rp q => by
    have q : ws[i]?.map (fun w => W.tup [.int (i : Nat), w]) = some w := Option.some.inj q
    cases q2 : ws[i]? with
    | none => rw [q2] at q; cases q
    | some w1 =>
      rw [q2] at q
      cases q
      have h1 := x.keep _ _ na h
      obtain ⟨v, hv, rv⟩ := (r.mono x).get q2
      refine ⟨⟨vs, v, h1, hv⟩, fun y H2 hy => ?_⟩
      obtain ⟨T, x1, rfl, nT, rfl, hy⟩ := hy
      have e2 := hy vs h1
      rw [hv] at e2; cases e2
      exact pair_new rp nT (.int _) rv
  no := fun i s ρ1 H1 x rp q => by
    have q : ws[i]?.map (fun w => W.tup [.int (i : Nat), w]) = none := Option.some.inj q
    exact ⟨vs, x.keep _ _ na h, by rw [← r.len]; exact List.getElem?_eq_none_iff.mp (by simpa using q)⟩
variable {a b : Expr} {ma mb : Lo → S → R W} {q' pos tpos : Pos} {elts : List Expr} {kk : Nat}
theorem si_enum (hm : X.mg "enumerate" = none) (ha : SE G p E X a ma) (hg : Gl X "enumerate" := by rfl) (hs : starEach [a] X.env = [(false, eval a X.env)] := by rfl) (hs2 : starEach (a :: []) X.env = (false, eval a X.env) :: starEach [] X.env := by rfl) : SI G p E X (.Tuple elts kk tpos) (.Call (.Name "enumerate" q') [a] [] pos) (iEnm ma p) :=
  PI_imp (PI_or (pi_enum hg hm (pa1 ha hs2) hs) (pi_enumT hg hm (pa1 ha hs2) hs)) fun σ H R' ⟨ρ, l, s, rl, rp, h⟩ => by
    unfold iEnm at h
    cases e : ma l s with
    | bad => rw [e] at h; exact h.elim
    | exc c w s1 =>
      refine .inl ⟨ρ, l, s, rl, rp, ?_⟩
      rw [e] at h ⊢
      exact h
    | ok w s1 =>
      rw [e] at h
      simp only [CC.R.bind] at h
      cases w with
      | ref n =>
        dsimp only at h
        cases q : cellItems p s1 n with
        | none => rw [q] at h; exact h.elim
        | some ws =>
          rw [q] at h
          refine .inl ⟨ρ, l, s, rl, rp, ?_⟩
          rw [e]
          refine fun ρ1 H1 v x1 rp1 rv => ?_
          cases rv with
          | ref e1 =>
            obtain ⟨vs, hs, _⟩ := cell_seq (K := X.K) rp1 q e1
            exact ⟨_, _, rfl, hs, h ρ1 H1 _ x1 rp1 (ri_enl e1)⟩
      | tup ws =>
        refine .inr ⟨ρ, l, s, rl, rp, ?_⟩
        rw [e]
        refine fun ρ1 H1 v x1 rp1 rv => ?_
        cases rv with
        | tup na h1 r => exact ⟨_, _, rfl, h1, h ρ1 H1 _ x1 rp1 (ri_ent na h1 r)⟩
      | _ => exact h.elim
end
end CC
set_option Elab.async false
set_option linter.all false
set_option maxRecDepth 100000
namespace CC
open PySem PySem.Spec PyProof.Rows L2
def eDct (p : Hh) : Lo → S → R W := fun _ s => .ok (.ref (nxt p s)) (al s (.dct []))
def rngW (lo c : Int) : Nat → List W
  | 0 => []
  | n + 1 => .int lo :: rngW (lo + c) c n
section
variable {G : GE} {X : Cx} {ρ : List Addr} {H : Hp} {p : Hh} {s : S} {E : WX} {a b o i d e : Expr} {ma mb mo mi md : Lo → S → R W} {pos apos cpos q' q2 : Pos}
theorem se_dct : SE G p E X (.Dict [] [] pos) (eDct p) := PE_imp pe_dnewK fun σ H Q ⟨ρ, l, s, rl, rp, h⟩ q hq => by
  have x : Ex ρ H (ρ ++ [q]) (upd H q (.dK [])) := Ex.al rp hq
  obtain ⟨_, r2, r3⟩ := rp.al_ (o := .dct []) (u := .dK []) hq (.dK rfl .nil)
  exact h _ _ _ x r2 r3
def gInA (p : Hh) (x y : W) (s : S) : O2 := match gDic p y x s with
  | some r => some (.bl r.isSome, s)
  | none => gIn p x y s
theorem isSome_of {r : Option W} {r' : Option V} (n1 : r = none → r' = none) (n2 : ∀ w, r = some w → ∃ v, r' = some v ∧ RV G ρ H w v) : r'.isSome = r.isSome := by
  cases r with
  | none => rw [n1 rfl] <;> rfl
  | some w => obtain ⟨v, rfl, _⟩ := n2 w rfl; rfl
theorem i_inA (hu : X.A.units + 65 < cLine) : OpI G X (compareOp .In) gInA := by
  intro p pins sh σ H v u v' u' Q I rv ru ⟨ρ, s, x, y, rp, r1, r2, h⟩
  unfold gInA at h
  cases g : gDic p y x s with
  | none => rw [g] at h; exact i_in hu p pins sh σ H v u v' u' Q I rv ru ⟨ρ, s, x, y, rp, r1, r2, h⟩
  | some r =>
    rw [g] at h
    obtain ⟨a, r', rfl, dg, n1, n2⟩ := dic_at rp r2 r1 g
    cases ru
    refine d_in (by omega) I dg rv fun s3 I3 => ⟨.bl _, H, I3, rfl, ?_⟩
    rw [isSome_of n1 n2]
    exact po_v h rp (.bl _)
end
end CC
set_option Elab.async false
set_option linter.all false
set_option maxRecDepth 100000
namespace CC
open PySem PySem.Spec PyProof.Rows L2
def noLists (K : PySem.W.Frag) : Bool := K.all fun p => match p.2.cls with
  | .type n => n != "list"
  | _ => true
theorem mem_lk : ∀ {K : List (Addr × Obj)} {a : Addr} {o : Obj}, K.lookup a = some o → (a, o) ∈ K
  | [], _, _, h => by cases h
  | (b, u) :: r, a, o, h => by
    rw [List.lookup_cons] at h
    cases hb : a == b with
    | true => rw [hb] at h; cases h; rw [eq_of_beq hb]; exact .head _
    | false => rw [hb] at h; exact .tail _ (mem_lk h)
theorem noLists_ok {K : PySem.W.Frag} (h : noLists K = true) {a : Addr} {o : Obj} (e : K.lookup a = some o) (c : o.cls = .type "list") : False := by
  have h2 := List.all_eq_true.mp h (a, o) (mem_lk e)
  simp only at h2
  rw [c] at h2
  exact absurd h2 (by decide)
def Yes (r : R W) : Prop := ∃ s, r = .ok (.bl true) s
theorem yes_of {G : GE} {F : Hh → List W → R W} {H : Hp} {a : Addr} {o : Obj} {ns : List Int} (h : Yes (F [.frz ns] [.ref 0])) (e : H a = some (.frz o (.lst (ns.map V.int)))) (E : XK) : spI G F [.ref a] H (fun v _ => v = .bl true) E := by
  refine ⟨[a], [.frz ns], [.ref 0], .cons (.ref rfl) .nil, ⟨rfl, by simp, fun n ob hn => ?_⟩, ?_⟩
  · unfold rd at hn
    cases n with
    | zero =>
      simp [lookN] at hn
      subst hn
      exact ⟨a, _, rfl, e, .frz⟩
    | succ n => simp at hn
  · obtain ⟨s, hs⟩ := h
    rw [hs]
    intro ρ' H' v _ _ rv
    cases rv
    rfl
def FLaw (G : GE) (P : Program) (w : World) (K : PySem.W.Frag) (mg : Str → Option Value) (k : Nat) (fa : Addr) (x : Str) (Fm : Hh → List W → R W) : Prop :=
  ∃ fd : FuncData, (∀ (s : Shared) (u : Value), BindsTo s fd ⟨[u], []⟩ [(x, u)]) ∧ ∀ base : Heap, K.In base → base.Ns mainGlobals mg → FnG P w K mg base k fa fd [x] (spI G Fm)
theorem law_run {G : GE} {P : Program} {w : World} {K : PySem.W.Frag} {mg mb : Str → Option Value} {k : Nat} {fa a : Addr} {x : Str} {Fm : Hh → List W → R W} {s₁ : Shared} {vs : List Value} {ns : List Int}
    (KX : K.In s₁.heap) (nl : noLists K = true) (hns : s₁.heap.Ns mainGlobals mg) (hb : s₁.heap.Ns builtinsNs mb) (hbb : ∀ x : Str, x ≠ "__name__" → mb x = bootBuiltins x) (hlim : s₁.heap.NoLimit) (hg : s₁.gens = #[])
    (ha : s₁.heap.get? a = some { cls := .type "list", data := .seq vs.toArray }) (hi : IntsAre vs ns) (hl : ns.length ≤ sizeLine) (hr : Room k callerA) (F : FLaw G P w K mg k fa x Fm) (yes : Yes (Fm [.frz ns] [.ref 0])) :
    codeAny (model P w) callerA (.call (.ref fa) ⟨[.ref a], []⟩) (fun r s' => r = .ok (.ret (.bool true)) ∧ OldK s₁.heap s'.heap ∧ s'.os = s₁.os ∧ AllBare s'.gens) s₁ := by
  obtain ⟨fd, bnd, F⟩ := F
  obtain ⟨H, eH⟩ : ∃ H : Hp, H = fun b => if b = a then some (.frz { cls := .type "list", data := .seq vs.toArray } (.lst (ns.map V.int))) else none := ⟨_, rfl⟩
  have Ha : H a = some (.frz { cls := .type "list", data := .seq vs.toArray } (.lst (ns.map V.int))) := by rw [eH]; exact if_pos rfl
  have Hn : ∀ {b}, b ≠ a → H b = none := fun {b} n => by rw [eH]; exact if_neg n
  have Hc : ∀ {b u}, H b = some u → b = a ∧ u = .frz { cls := .type "list", data := .seq vs.toArray } (.lst (ns.map V.int)) := fun {b u} z => by
    by_cases e : b = a
    · subst e; rw [Ha] at z; cases z; exact ⟨rfl, rfl⟩
    · rw [Hn e] at z; cases z
  have nsK : ∀ {b : Addr} {m : Str → Option Value}, s₁.heap.Ns b m → (hidT s₁.heap H).Ns b m := fun {b m} ⟨o, es, ep, e, d, r⟩ => ⟨o, es, ep, hidT_get e (Hn fun z => by
    subst z
    rw [ha] at e; cases e
    have d' : Data.seq vs.toArray _ = Data.dict es ep := d
    cases d'), d, r⟩
  have hKb : K.In (hidT s₁.heap H) := fun b o e => hidT_get (KX b o e) (Hn fun z => by
    subst z
    have e2 := KX b o e
    rw [ha] at e2
    cases e2
    exact noLists_ok nl e rfl)
  have hM : Mod K mg (hidT s₁.heap H) := ⟨hKb, nsK hns, ⟨mb, nsK hb, hbb⟩, let ⟨mc, h1, h2⟩ := hlim; ⟨mc, nsK h1, h2⟩⟩
  have hok : HOk P w H s₁.heap := fun b u z => by
    obtain ⟨rfl, rfl⟩ := Hc z
    exact ⟨ha, by rw [List.length_map]; exact hl, vs, _, vals_ints hi, ha⟩
  have e0 : Env0 P w K mg (hidT s₁.heap H) callerA [] s₁ H := ⟨rfl, hM, fun b o e => of_hidT e, Nat.le_of_eq (hidT_size _ _), trivial, fun b hb => absurd (show b ∈ ([] : List Addr) from hb) (by simp), hok, .of_eq hg⟩
  refine codeAny_mono ((F _ hKb (nsK hns)).run callerA [] s₁ H ⟨[.ref a], []⟩ [.ref a] [.ref a] _ _ hr rfl e0 (bnd s₁ (.ref a)) (.cons rfl .nil) (yes_of yes Ha (fun _ _ _ => False))) fun r s' h => ?_
  cases r with
  | error e =>
    obtain ⟨_, _, _, _, _, _, _, _, _, _, _, _, z⟩ := h
    exact z.elim
  | ok fl =>
    cases fl with
    | ret u =>
      obtain ⟨v, H', os, bare, un, hok', r', q⟩ := h
      have q' : v = .bl true := q
      subst q'
      obtain rfl : u = Value.bool true := r'
      refine ⟨rfl, OldK.of_keep fun b o e => ?_, os, bare⟩
      cases q : H b with
      | none => exact un.keep b o e q (by intro z; exact absurd (show b ∈ ([] : List Addr) from z) (by simp)) (by simp)
      | some u =>
        obtain ⟨rfl, rfl⟩ := Hc q
        obtain ⟨e2, _⟩ := hok' b _ (un.frzs b _ _ q)
        rw [ha] at e
        cases e
        exact e2
    | _ => exact False.elim h
theorem law_end {l : PySem.W.OpenLaw} {k : Nat} {q : Program} {loose : List Str} {XP : (Str → Option Value) → Heap → Prop} {YP : World → Heap → Prop} {d : DefRec} {K : Params → PySem.W.Frag} {x : Str} {Fm : Hh → List W → R W} (hn : l.most = some 63) (hdf : d.params.defaults = []) (hr : Room k callerA)
    (hY : ∀ (w : World) (h : Heap), YP w h → (K w.params).In h)
    (F : ∀ (w : World) (mg : Str → Option Value) (fa : Addr) (h : Heap), (K w.params).In h → h.Ns mainGlobals mg → mg d.name = some (.ref fa) → noLists (K w.params) = true ∧ ∃ G : GE, FLaw G l.prog w (K w.params) mg k fa x Fm) (yes : ∀ ns : List Int, ns.length ≤ 63 → Yes (Fm [.frz ns] [.ref 0])) :
    PySem.W.WalkO q loose XP YP l.row.toRowW d [] (fun f vs => PySem.call f vs) := by
  refine Att.attach_call hn hdf fun w s₀ s₁ mg mb fa o pm cd doc a vs ns G Y ho hd hcd hmg hobj hints hlen hg => ?_
  have KX := hY w _ Y
  obtain ⟨nl, GG, hF⟩ := F w mg fa _ KX G.T.g hmg
  exact law_run KX nl G.T.g G.T.b G.T.builtins G.T.nolimit hg hobj hints (Nat.le_trans hlen (by decide)) hr hF (yes ns hlen)
end CC
set_option Elab.async false
set_option linter.all false
set_option maxRecDepth 100000
namespace CC
open PySem PySem.Spec PyProof.Rows L2
section
variable {X : Cx} {E : WX} {k : Nat}
theorem Cn.u65 (cn : Cn X E k) : X.A.units + 65 < cLine := by have := cn.room.un; omega
theorem Cn.u64 (cn : Cn X E k) : X.A.units + 64 < cLine := by have := cn.room.un; omega
theorem Cn.u1 (cn : Cn X E k) : X.A.units + 1 < cLine := by have := cn.room.un; omega
theorem Cn.u0 (cn : Cn X E k) : X.A.units < cLine := by have := cn.room.un; omega
end
section
variable {G : GE} {p : Hh} {E : WX} {X : Cx} {pos : Pos} {k : Nat} {a b c : Expr} {mr : Lo → S → R (List W)}
def sPar3 (i j n : Nat) (mr : Lo → S → R (List W)) : Lo → S → RS := fun l s => match mr l s with
  | .ok [x, y, z] s1 => .nx (((l.set i (some x)).set j (some y)).set n (some z)) s1
  | .exc c w s1 => .exc c w l s1
  | _ => .bad
end
section
variable {G : GE} {P : Program} {w : World} {K : PySem.W.Frag} {mg : Str → Option Value} {base : Heap} {k : Nat} {f : Addr} {Fm : Hh → List W → R W} {dws : List W}
theorem FC.mono {j : Nat} (F : FC G P w K mg base j f Fm dws) (h : j ≤ k) : FC G P w K mg base k f Fm dws := by
  obtain ⟨⟨fd, ps, dvs, ds, a, b, c, d⟩, kp⟩ := F
  exact ⟨⟨fd, ps, dvs, ds, a.mono h, b, c, d⟩, kp⟩
def KD (K : PySem.W.Frag) (x qual : Str) (st : Stmt) (f : Addr) : Prop := ∃ fd, Fun K x qual st f fd
theorem kd_mk {x qual : Str} {st : Stmt} {f : Addr} {oc : Value} {od an : Option Addr} {osl : Array (Option Value)} {kV doc pm cdv ct : Value} (l : K.lookup f = some ⟨oc, od, .func (PySem.W.fnOf x qual (defArgs st) (defBody st) (defScope st) .none kV doc pm an cdv ct), osl⟩)
    (c : PySem.W.codeIn K cdv qual = true) (k : PySem.W.keepIn K (.ref f) = true) : KD K x qual st f := ⟨_, fun_mk l c k⟩
theorem fc_mk {x qual : Str} {st : Stmt} {fd : FuncData} {ps : List Str} (F : Fun K x qual st f fd) (g : FnG P w K mg base k f fd ps (spI G Fm)) (b : Binds K fd ps []) : FC G P w K mg base k f Fm [] := ⟨⟨fd, ps, [], [], g, b, .nil, fun _ _ => .nil⟩, F.kp⟩
def KDD (K : PySem.W.Frag) (x qual : Str) (st : Stmt) (dvs : List V) (f : Addr) : Prop := ∃ fd, FunD K x qual (defArgs st) (defBody st) (defScope st) dvs [] f fd
theorem kdd_mk {x qual : Str} {st : Stmt} {f T : Addr} {oc tc : Value} {od an td : Option Addr} {osl tsl : Array (Option Value)} {kV doc pm cdv ct : Value} {its : List Value} {n : Nat} {dvs : List V} (l : K.lookup f = some ⟨oc, od, .func (PySem.W.fnOf x qual (defArgs st) (defBody st) (defScope st) (.ref T) kV doc pm an cdv ct), osl⟩)
    (c : PySem.W.codeIn K cdv qual = true) (k : PySem.W.keepIn K (.ref f) = true) (t : K.lookup T = some ⟨tc, td, .seq its.toArray n, tsl⟩) (r : Vals dvs its) (ne : dvs ≠ []) : KDD K x qual st dvs f :=
  ⟨_, ⟨⟨oc, od, .ref T, kV, doc, pm, an, cdv, ct, osl, rfl, l, c, .inr ⟨ne, T, _, its, n, rfl, t, rfl, r⟩, .inl rfl⟩, k⟩⟩
theorem fcd_mk {x qual : Str} {st : Stmt} {fd : FuncData} {ps : List Str} {dvs : List V} {dws : List W} {j : Nat} (F : FunD K x qual (defArgs st) (defBody st) (defScope st) dvs [] f fd) (g : FnG P w K mg base k f fd ps (spI G Fm)) (b : ∃ ds, Vals (dvs.drop j) ds ∧ Binds K fd ps ds) (r : ∀ ρ H, RVs G ρ H dws (dvs.drop j)) : FC G P w K mg base k f Fm dws := by
  obtain ⟨ds, h1, h2⟩ := b
  exact ⟨⟨fd, ps, _, ds, g, h2, h1, r⟩, F.kp⟩
end
section
variable {X : Cx} {K : PySem.W.Frag}
theorem ctg_1 {i : Nat} {x : Str} {pos : Pos} (hc : X.calm = true) (hN : X.N.Nodup) (hi : X.N[i]? = some x := by rfl) (hx : Loc X.env.scope x := by first | exact .inl rfl | exact .inr rfl) (hf : X.fn x = true ∨ X.env.scope.names.lookup x = some .local := by first | exact .inr rfl | exact .inl rfl) : PG X (.Name x pos) ((CTg.nm i).tg X.K) := pg_name hN hi hx hf
theorem ctg_2 {i j : Nat} {x y : Str} {px py pos : Pos} {kk : Nat} (hc : X.calm = true) (hN : X.N.Nodup) (hi : X.N[i]? = some x := by rfl) (hx : Loc X.env.scope x := by first | exact .inl rfl | exact .inr rfl) (hf : X.fn x = true ∨ X.env.scope.names.lookup x = some .local := by first | exact .inr rfl | exact .inl rfl)
    (hj : X.N[j]? = some y := by rfl) (hy : Loc X.env.scope y := by first | exact .inl rfl | exact .inr rfl) (hg : X.fn y = true ∨ X.env.scope.names.lookup y = some .local := by first | exact .inr rfl | exact .inl rfl)
    (hs : (assignEach (.Name x px :: [.Name y py]) X.env).map (·.2) = assign (.Name x px) X.env :: (assignEach [.Name y py] X.env).map (·.2) := by rfl) (hs2 : (assignEach (.Name y py :: []) X.env).map (·.2) = assign (.Name y py) X.env :: (assignEach [] X.env).map (·.2) := by rfl) (hn : (assignEach [.Name x px, .Name y py] X.env).length = 2 := by rfl) (hst : (assignEach [.Name x px, .Name y py] X.env).findIdx? (·.1) = none := by rfl) :
    PG X (.Tuple [.Name x px, .Name y py] kk pos) ((CTg.pr i j).tg X.K) := pg_tup hc (pgs_cons (pg_name hN hi hx hf) (pgs_cons (pg_name hN hj hy hg) pgs_nil hs2) hs) hn hst
end
def blkB (N : List Str) (sc scope : Scope) (own : List (Str × Nat)) : Bool :=
  decide (scope.kind = .function) && scope.names.all (fun y => decide (scope.names.lookup y.1 = some y.2)) && own.all (fun p => decide (N[p.2]? = some p.1)) &&
  scope.names.all (fun y => !decide (y.2 = .free) || (decide (sc.names.lookup y.1 = some .cell) || decide (sc.names.lookup y.1 = some .free))) &&
  scope.names.all (fun y => !(decide (y.2 = .local) || decide (y.2 = .cell)) || ((own.map (·.1)).contains y.1 || !N.contains y.1))
theorem blk_ok {N : List Str} {sc scope : Scope} {own : List (Str × Nat)} (h : blkB N sc scope own = true) : BlkOk N sc scope own := by
  unfold blkB at h
  simp only [Bool.and_eq_true, List.all_eq_true, decide_eq_true_eq, Bool.or_eq_true, Bool.not_eq_true', decide_eq_false_iff_not, List.contains_iff_mem] at h
  obtain ⟨⟨⟨⟨h1, h2⟩, h3⟩, h4⟩, h5⟩ := h
  refine ⟨h1, h2, h3, fun y hy e => (h4 y hy).resolve_left (fun n => n e), fun y hy e => ?_⟩
  rcases h5 y hy with h | h | h
  · exact absurd e (by
      intro z
      rcases z with z | z <;> simp [z] at h)
  · exact .inl h
  · exact .inr (by simpa using h)
theorem se_gint {G : GE} {p : Hh} {E : WX} {X : Cx} {x : Str} {i : Int} {t : Tok} {pos : Pos} (hm : X.mg x = some (.int i t)) (hg : Gl X x := by rfl) (hd : (x == ("__debug__" : Str)) = false := by decide) : SE G p E X (.Name x pos) (eC (.int i)) :=
  se_of (pe_glob hg hm (v := .int i) ⟨t, rfl⟩ hd) fun _ _ => .int i
end CC
set_option Elab.async false
set_option linter.all false
set_option maxRecDepth 100000
namespace CC
open PySem PySem.Spec PyProof.Rows L2
section
variable {G : GE} {X : Cx} {k c : Nat} {f : Addr} {Fm : Hh → List W → R W} {E : WX}
end
end CC
set_option Elab.async false
set_option linter.all false
set_option maxRecDepth 100000
set_option maxHeartbeats 2000000
namespace CC
open PySem PySem.Spec PyProof.Rows L2
structure Cls1 where
  c : Value
  i : Option Nat
  ts : Addr → Value → Option Addr → TS
inductive HdN (X : Cx) : List ExceptHandler → List Cls1 → Prop
  | nil : HdN X [] []
  | bare {x : Str} {c : Value} {ts : Addr → Value → Option Addr → TS} {b0 : Stmt} {su : List Stmt} {np pp : Pos} {hs : List ExceptHandler} {l : List Cls1} (hc : Names X x c)
      (hsu : ∀ (a : Addr) (oe : Obj) (cls : Value) (d : Option Addr) (pn : List (Addr × Obj)), Zc cls d oe → (∃ vs, oe.data = .fields vs) → PSs (X.suite a ((a, oe) :: pn)) (b0 :: su) (ts a cls d)) (r : HdN X hs l) : HdN X (.ExceptHandler (some (.Name x np)) none (b0 :: su) pp :: hs) (⟨c, none, ts⟩ :: l)
  | named {x n : Str} {i : Nat} {c : Value} {ts : Addr → Value → Option Addr → TS} {b0 : Stmt} {su : List Stmt} {np pp : Pos} {hs : List ExceptHandler} {l : List Cls1} (hc : Names X x c) (hi : X.N[i]? = some n) (hk : X.env.kindOf n = some .local)
      (hsu : ∀ (a : Addr) (oe : Obj) (cls : Value) (d : Option Addr) (pn : List (Addr × Obj)), Zc cls d oe → (∃ vs, oe.data = .fields vs) → PSs (X.suite a ((a, oe) :: pn)) (b0 :: su) (ts a cls d)) (r : HdN X hs l) : HdN X (.ExceptHandler (some (.Name x np)) (some n) (b0 :: su) pp :: hs) (⟨c, some i, ts⟩ :: l)
section
variable {X : Cx} {body : List Stmt} {h0 : ExceptHandler} {hds : List ExceptHandler} {l : List Cls1} {pos : Pos} {tb : WX → TS} {Wo : WX}
end
end CC
set_option Elab.async false
set_option linter.all false
set_option maxRecDepth 100000
set_option maxHeartbeats 2000000
namespace CC
open PySem PySem.Spec PyProof.Rows L2
section
variable {X : Cx} {a0 : Expr} {es : List Expr} {ta : TA} {p1 p2 pos : Pos} {B : Str} {CB : Addr} {mc : Value}
end
def spX (K : PySem.W.Frag) (C : Addr) (f : Str) : Sp := fun vs H Q _ => ∃ (a : Addr) (v : V), vs = [.ref a, v] ∧ H a = some (exo a C none) ∧ ∀ dx, H dx = none → dx ≠ a → Q .non (upd (upd H dx (exd dx [(f, v)])) a (exo a C (some dx)))
section
variable {P : Program} {w : World} {K : PySem.W.Frag} {mg : Str → Option Value} {base : Heap}
end
section
variable {X : Cx} {x : Str} {e : Expr} {es : List Expr} {ta : TA} {p pos : Pos}
end
structure XC (G : GE) (P : Program) (w : World) (K : PySem.W.Frag) (mg : Str → Option Value) (base : Heap) (c : Nat) (x : Str) (f : Str) : Prop where
  T : OexC K (G.cls c)
  fl : G.fld c = [f]
  nm : mg x = some (.ref (G.cls c))
  ini : ∃ (fI : Addr) (fd : FuncData) (ps : List Str), PySem.W.findIn K (.ref (G.cls c)) "__init__" = some (some (.ref fI)) ∧ PySem.W.typeIn K (.ref fI) = some (.type "function") ∧ FnG P w K mg base 1 fI fd ps (spX K (G.cls c) f) ∧ Binds K fd ps []
def sRaise (c : Nat) (ma : Lo → S → R W) : Lo → S → RS := fun l s => (ma l s).toS l fun w s1 => .exc c w l s1
section
variable {G : GE} {p : Hh} {E : WX} {X : Cx} {k c : Nat} {x f : Str} {a : Expr} {ma : Lo → S → R W} {p' pos pos' : Pos}
end
end CC
set_option Elab.async false
set_option linter.all false
set_option maxRecDepth 100000
set_option maxHeartbeats 4000000
namespace CC
open PySem PySem.Spec PyProof.Rows L2
open PySem.HandSPX
structure BEx (B newId initId : String) (tl : List Value) : Prop where
  F : ExcBaseFacts B newId initId tl
  pass : ∀ self, PySem.refuseLoop self "__setattr__" tl = pure ()
  obj : tl.contains (.type "object") = true
  hd : ∃ t r, tl = .type t :: r
def refsB (tl : List Value) : List Value → Bool
  | .ref _ :: r => refsB tl r
  | l => l == tl
section
variable {tl : List Value}
variable {B newId initId : String} (X : BEx B newId initId tl)
include X
end
section
open Builtin Builtin.ObjectAttr
variable {tl : List Value} {B newId initId : String} (Y : BEx B newId initId tl)
include Y
variable {prog : Program} {w : World} {A : Around} {E : Value → Shared → Prop} {R : Result → Shared → Prop} {hp : Heap} {g : Array GenState} {d : Drawn} {t : Nat} {os : OsState}
end
structure OexB (newId : String) (tl : List Value) (K : PySem.W.Frag) (C : Addr) : Prop where
  cls : ∃ nm q N bs bm sn sub ab col dd k0 k1 k2 k3 k5, K.lookup C = some (excClassObj nm q C N bs bm true sn sub ab col dd k0 k1 k2 k3 k5 newId) ∧ refsB tl bm = true
  sa : PySem.W.findIn K (.ref C) "__setattr__" = some (some (.builtin "object.__setattr__"))
  exC : PySem.W.subIn K (.ref C) (.type "BaseException") = some true
  tyC : PySem.W.typeIn K (.ref C) = some (.type "type")
  kC : PySem.W.keepIn K (.ref C) = true
section
variable {tl : List Value} {B newId initId : String} (Z : BEx B newId initId tl)
include Z
variable {X : Cx} {pins : List (Addr × Obj)} {σ : L2.St} {H : Hp} {s : Shared} {a C dx : Addr} {f : Str} {y : V} {u : Value} {fs : List (Str × V)} {Q : Unit → Shared → Prop} {E : Value → Shared → Prop} {A : Around}
end
section
variable {tl : List Value} {B newId initId : String} (Z : BEx B newId initId tl)
include Z
variable {X : Cx} {o e a0 : Expr} {es : List Expr} {to te : TE} {ta : TA} {f : Str} {p p' p1 p2 pos : Pos}
end
section
variable {tl : List Value} {B newId initId : String} (Z : BEx B newId initId tl)
include Z
variable {P : Program} {w : World} {K : PySem.W.Frag} {mg : Str → Option Value} {base : Heap}
end
section
variable {tl : List Value} {B newId initId : String} (Z : BEx B newId initId tl)
include Z
variable {X : Cx} {x : Str} {e : Expr} {es : List Expr} {ta : TA} {p pos : Pos}
end
structure XB (newId : String) (tl : List Value) (G : GE) (P : Program) (w : World) (K : PySem.W.Frag) (mg : Str → Option Value) (base : Heap) (c : Nat) (x : Str) (f : Str) : Prop where
  T : OexB newId tl K (G.cls c)
  fl : G.fld c = [f]
  nm : mg x = some (.ref (G.cls c))
  ini : ∃ (fI : Addr) (fd : FuncData) (ps : List Str), PySem.W.findIn K (.ref (G.cls c)) "__init__" = some (some (.ref fI)) ∧ PySem.W.typeIn K (.ref fI) = some (.type "function") ∧ FnG P w K mg base 1 fI fd ps (spX K (G.cls c) f) ∧ Binds K fd ps []
section
variable {tl : List Value} {B newId initId : String} (Z : BEx B newId initId tl)
include Z
variable {G : GE} {p : Hh} {E : WX} {X : Cx} {k c : Nat} {x f : Str} {a : Expr} {ma : Lo → S → R W} {p' pos pos' : Pos}
end
end CC
set_option Elab.async false
set_option linter.all false
set_option maxRecDepth 100000
set_option maxHeartbeats 2000000
namespace CC
open PySem PySem.Spec PyProof.Rows L2
mutual
theorem RV.chg {G G' : GE} {ρ : List Addr} {H : Hp} : ∀ {w : W} {v : V}, RV G ρ H w v → RV G' ρ H w v
  | _, _, .non => .non
  | _, _, .bl b => .bl b
  | _, _, .int i => .int i
  | _, _, .str z => .str z
  | _, _, .ref h => .ref h
  | _, _, .tup na h r => .tup na h (RVs.chg r)
theorem RVs.chg {G G' : GE} {ρ : List Addr} {H : Hp} : ∀ {ws : List W} {vs : List V}, RVs G ρ H ws vs → RVs G' ρ H ws vs
  | _, _, .nil => .nil
  | _, _, .cons h r => .cons (RV.chg h) (RVs.chg r)
end
theorem RO.chg {G G' : GE} {ρ : List Addr} {H : Hp} (ec : G'.cls = G.cls) (ef : G'.fld = G.fld) {o : Ob} {u : HO} (r : RO G ρ H o u) : RO G' ρ H o u := by
  cases r with
  | lst r => exact .lst r.chg
  | frz => exact .frz
  | dK r r2 => exact .dK r r2.chg
  | dT r r2 => exact .dT r r2.chg
  | @ins c fs gs dx k r =>
    rw [← ec]
    exact .ins (by rw [ef]; exact k) r.chg
theorem Rep.chg {G G' : GE} {ρ : List Addr} {H : Hp} {p : Hh} {s : S} (ec : G'.cls = G.cls) (ef : G'.fld = G.fld) (r : Rep G ρ p s H) : Rep G' ρ p s H := ⟨r.len, r.nd, fun n o h => by
  obtain ⟨a, u, e1, e2, e3⟩ := r.has n o h
  exact ⟨a, u, e1, e2, e3.chg ec ef⟩⟩
theorem RX.chg {G G' : GE} {ρ : List Addr} {H : Hp} {c : Nat} {w : W} {d : Option Addr} (ef : G'.fld = G.fld) (r : RX G ρ H c w d) : RX G' ρ H c w d := by
  unfold RX at *
  rw [ef]
  split
  · trivial
  · rename_i f hf
    rw [hf] at r
    obtain ⟨dd, v, e1, n, e2, q⟩ := r
    exact ⟨dd, v, e1, n, e2, q.chg⟩
theorem PoV.chg {G G' : GE} {p : Hh} {ρ : List Addr} {H : Hp} {r : R W} {Q : VK} {E : XK} (ec : G'.cls = G.cls) (ef : G'.fld = G.fld) (h : PoV G' p ρ H r Q E) : PoV G p ρ H r Q E := by
  cases r with
  | ok w s' => exact fun ρ' H' v x y z => h ρ' H' v x (y.chg ec ef) z.chg
  | exc c w s' =>
    intro ρ' H' d x y z
    rw [← ec]
    exact h ρ' H' d x (y.chg ec ef) (z.chg ef)
  | bad => exact h
structure Ch (X : Cx) (E : WX) (k : Nat) : Prop where
  room : L2H.RoomH k X.A
  pin : ∃ q, q ∈ X.pn
  tk : Takes X E
  nd : X.N.Nodup
section
variable {X : Cx} {E : WX} {k : Nat}
theorem Ch.u65 (cn : Ch X E k) : X.A.units + 65 < cLine := by have := cn.room.un; omega
theorem Ch.u64 (cn : Ch X E k) : X.A.units + 64 < cLine := by have := cn.room.un; omega
theorem Ch.u1 (cn : Ch X E k) : X.A.units + 1 < cLine := by have := cn.room.un; omega
theorem Ch.u0 (cn : Ch X E k) : X.A.units < cLine := by have := cn.room.un; omega
end
structure FnP (P : Program) (w : World) (K : PySem.W.Frag) (mg : Str → Option Value) (base : Heap) (k : Nat) (f : Addr) (fd : FuncData) (ps : List Str) (sp : Sp) : Prop where
  len : ∀ vs H Q E, sp vs H Q E → vs.length = ps.length
  run : ∀ (A : Around) (outer : List Env) (s : Shared) (H : Hp) (args : Args) (us : List Value) (vs : List V) (Q : VK) (E : XK) (q : Addr × Obj), L2H.RoomH k A → L2H.PinOk outer H s q → Env0 P w K mg base A outer s H → BindsTo s fd args (ps.zip us) → Vals vs us → sp vs H Q E →
    codeAny (model P w) A (.call (.ref f) args) (CR (L2.CX P w) outer P w H s Q E) s
section
variable {P : Program} {w : World} {K : PySem.W.Frag} {mg : Str → Option Value} {base : Heap} {k : Nat} {f : Addr} {fd : FuncData} {ps : List Str} {sp : Sp}
theorem FnP.mono {j : Nat} (F : FnP P w K mg base j f fd ps sp) (h : j ≤ k) : FnP P w K mg base k f fd ps sp :=
  ⟨F.len, fun A outer s H args us vs Q E q hr => F.run A outer s H args us vs Q E q (hr.mono h)⟩
end
section
variable {X : Cx} {k : Nat} {f C : Addr} {fd : FuncData} {ps : List Str} {sp : Sp} {E : L2.St → XK}
end
structure FH (G : GE) (P : Program) (w : World) (K : PySem.W.Frag) (mg : Str → Option Value) (base : Heap) (k : Nat) (f : Addr) (Fm : Hh → List W → R W) : Prop where
  ex : ∃ (fd : FuncData) (ps : List Str), FnP P w K mg base k f fd ps (spI G Fm) ∧ Binds K fd ps []
  kp : PySem.W.keepIn K (.ref f) = true
section
variable {P : Program} {w : World} {K : PySem.W.Frag} {mg : Str → Option Value} {base : Heap} {G : GE} {k : Nat} {f : Addr} {Fm : Hh → List W → R W}
theorem FH.mono {j : Nat} (F : FH G P w K mg base j f Fm) (h : j ≤ k) : FH G P w K mg base k f Fm := by
  obtain ⟨⟨fd, ps, a, b⟩, kp⟩ := F
  exact ⟨⟨fd, ps, a.mono h, b⟩, kp⟩
end
section
variable {G G' : GE} {p : Hh} {E : WX} {X : Cx} {k c : Nat} {pos apos : Pos} {o : Expr} {mo : Lo → S → R W} {Fm : Hh → List W → R W} {f : Addr}
end
end CC
set_option Elab.async false
set_option linter.all false
set_option maxRecDepth 100000
set_option maxHeartbeats 2000000
namespace CC
open PySem PySem.Spec PyProof.Rows L2
def GE.inS (G : GE) (i : Nat) (a : Addr) (d : Option Addr) (f : Str) (w : W) (hH : G.hold = none) : GE where
  cls := G.cls
  fld := G.fld
  J := fun ρ σ H => G.J ρ σ H ∧ σ[i]? = some (some (.ref a)) ∧ ∃ dd v, d = some dd ∧ dd ∉ ρ ∧ H dd = some (.xd [(f, v)]) ∧ RV G ρ H w v
  jm := fun x ⟨h1, h2, dd, v, e, n, hd, r⟩ => ⟨G.jm x h1, h2, dd, v, e, x.nin n hd, x.keep _ _ n hd, r.mono x⟩
  hold := some i
  js := fun j o hj ⟨h1, h2, h3⟩ => ⟨G.js j o (by rw [hH]; intro z; cases z) h1, by rw [List.getElem?_set_ne (fun e => hj (by rw [e]))]; exact h2, h3⟩
structure Cs (X : Cx) (k : Nat) : Prop where
  gd : X.A.guards = some []
  ch : Ch X (fun _ _ _ _ => False) k
theorem Cs.u65 {X : Cx} {k : Nat} (c : Cs X k) : X.A.units + 65 < cLine := c.ch.u65
theorem Cs.u64 {X : Cx} {k : Nat} (c : Cs X k) : X.A.units + 64 < cLine := c.ch.u64
theorem Cs.u1 {X : Cx} {k : Nat} (c : Cs X k) : X.A.units + 1 < cLine := c.ch.u1
theorem Cs.u0 {X : Cx} {k : Nat} (c : Cs X k) : X.A.units < cLine := c.ch.u0
theorem Cs.nd {X : Cx} {k : Nat} (c : Cs X k) : X.N.Nodup := c.ch.nd
section
variable {G : GE} {p : Hh} {X : Cx} {i c : Nat} {a : Addr} {oe : Obj} {pn : List (Addr × Obj)} {d : Option Addr} {f : Str} {w : W} {hH : G.hold = none} {E : WX} {pos p1 p' q' : Pos} {x n : Str}
end
theorem Rep.toS {G : GE} {i : Nat} {a : Addr} {d : Option Addr} {f : Str} {w : W} {hH : G.hold = none} {ρ : List Addr} {p : Hh} {s : S} {H : Hp} (r : Rep G ρ p s H) : Rep (G.inS i a d f w hH) ρ p s H := Rep.chg (G := G) (G' := G.inS i a d f w hH) rfl rfl r
structure HC where
  cx : Nat
  no : List Nat
  slot : Option Nat
  su : W → Lo → S → RS
inductive HS (G : GE) (p : Hh) (X : Cx) (k : Nat) (hH : G.hold = none) : List ExceptHandler → List HC → Prop
  | nil : HS G p X k hH [] []
  | bare {x : Str} {cx : Nat} {no : List Nat} {su : W → Lo → S → RS} {b0 : Stmt} {sts : List Stmt} {np pp : Pos} {hs : List ExceptHandler} {l : List HC} (hc : Names X x (.ref (G.cls cx))) (hy : PySem.W.exmOne X.K (.ref (G.cls cx)) (.ref (G.cls cx)) = some true) (hn : ∀ j ∈ no, PySem.W.exmOne X.K (.ref (G.cls j)) (.ref (G.cls cx)) = some false)
      (hsu : ∀ (a : Addr) (oe : Obj) (d : Option Addr) (pn : List (Addr × Obj)) (w : W), Zc (.ref (G.cls cx)) d oe → (∃ vs, oe.data = .fields vs) → Cs (X.suite a ((a, oe) :: pn)) k → SB G p (fun _ _ _ _ => False) (X.suite a ((a, oe) :: pn)) (b0 :: sts) (su w)) (r : HS G p X k hH hs l) : HS G p X k hH (.ExceptHandler (some (.Name x np)) none (b0 :: sts) pp :: hs) (⟨cx, no, none, su⟩ :: l)
  | named {x n f : Str} {i cx : Nat} {no : List Nat} {su : W → Lo → S → RS} {b0 : Stmt} {sts : List Stmt} {np pp : Pos} {hs : List ExceptHandler} {l : List HC} (hc : Names X x (.ref (G.cls cx))) (hy : PySem.W.exmOne X.K (.ref (G.cls cx)) (.ref (G.cls cx)) = some true) (hn : ∀ j ∈ no, PySem.W.exmOne X.K (.ref (G.cls j)) (.ref (G.cls cx)) = some false) (hf : G.fld cx = [f]) (hi : X.N[i]? = some n) (hk : X.env.kindOf n = some .local)
      (hsu : ∀ (a : Addr) (oe : Obj) (d : Option Addr) (pn : List (Addr × Obj)) (w : W), Zc (.ref (G.cls cx)) d oe → (∃ vs, oe.data = .fields vs) → Cs (X.suite a ((a, oe) :: pn)) k → SB (G.inS i a d f w hH) p (fun _ _ _ _ => False) (X.suite a ((a, oe) :: pn)) (b0 :: sts) (su w)) (r : HS G p X k hH hs l) : HS G p X k hH (.ExceptHandler (some (.Name x np)) (some n) (b0 :: sts) pp :: hs) (⟨cx, no, some i, su⟩ :: l)
section
variable {G : GE} {p : Hh} {X : Cx} {E : WX} {k : Nat} {hH : G.hold = none}
end
end CC
set_option Elab.async false
set_option linter.all false
set_option maxRecDepth 100000
namespace CC
open PySem PySem.Spec PyProof.Rows L2
section
variable {K : PySem.W.Frag} {C : Addr}
end
def gcOf : List Addr → Nat → Addr
  | [], _ => 0
  | a :: _, 0 => a
  | _ :: r, n + 1 => gcOf r n
end CC
set_option Elab.async false
set_option linter.all false
set_option maxRecDepth 100000
set_option maxHeartbeats 2000000
namespace CC
open PySem PySem.Spec PyProof.Rows L2
section
variable {G : GE} {X : Cx} {p : Hh} {E : WX} {a : Expr} {ma : Lo → S → R W} {pos p' : Pos}
end
end CC
set_option Elab.async false
set_option linter.all false
set_option maxRecDepth 100000
set_option maxHeartbeats 2000000
namespace CC
open PySem PySem.Spec PyProof.Rows L2
section
variable {G : GE} {X : Cx} {p : Hh} {E : WX} {a b : Expr} {mk mv : Lo → S → R W} {pos : Pos}
end
end CC
set_option Elab.async false
set_option linter.all false
set_option maxRecDepth 100000
set_option maxHeartbeats 2000000
namespace CC
open PySem PySem.Spec PyProof.Rows L2
section
variable {G : GE} {X : Cx} {ρ : List Addr} {H : Hp} {p : Hh} {s : S}
end
end CC
set_option Elab.async false
set_option linter.all false
set_option maxRecDepth 100000
namespace CC
open PySem PySem.Spec PyProof.Rows L2
theorem Cn.e0 {X : Cx} {E : WX} {k : Nat} (cn : Cn X E k) : Cn X (fun _ _ _ _ => False) k := ⟨cn.calm, cn.room, cn.tk.imp fun _ _ _ _ h => h.elim, cn.own, cn.nd, cn.gd⟩
end CC
set_option Elab.async false
set_option linter.all false
set_option maxRecDepth 100000
namespace CC
open PySem PySem.Spec PyProof.Rows L2
section
variable {prog : Program} {w : World} {A : Around} {E : Value → Shared → Prop} {s : Shared} {K : PySem.W.Frag} {x y C L f : Addr} {h₀ : Heap} {m : PySem.Str → Option Value} {ox oy : Obj} {od od' : Option Obj}
end
section
variable {G : GE} {X : Cx} {k c : Nat} {f : Addr} {Fm : Hh → List W → R W} {E : WX}
end
end CC
set_option Elab.async false
set_option linter.all false
set_option maxRecDepth 100000
set_option maxHeartbeats 2000000
namespace CC
open PySem PySem.Spec PyProof.Rows L2
def lexL : List Int → List Int → Bool
  | [], [] => false
  | [], _ :: _ => true
  | _ :: _, [] => false
  | a :: r, b :: t => if a = b then lexL r t else decide (a < b)
section
variable {α β : Type} (k : α → List Int)
def insB (x : α) : List α → List α
  | [] => [x]
  | y :: l => cond (lexL (k y) (k x)) (y :: insB x l) (x :: y :: l)
def srtB : List α → List α
  | [] => []
  | x :: l => insB k x (srtB l)
variable {k}
end
inductive Rl2 {α β : Type} (R : α → β → Prop) : List α → List β → Prop
  | nil : Rl2 R [] []
  | cons {a : α} {b : β} {l : List α} {m : List β} (h : R a b) (r : Rl2 R l m) : Rl2 R (a :: l) (b :: m)
theorem Rl2.ins {α β : Type} {R : α → β → Prop} {k : α → List Int} {k' : β → List Int} (hk : ∀ a b, R a b → k a = k' b) {x : α} {y : β} (h : R x y) : ∀ {l : List α} {m : List β}, Rl2 R l m → Rl2 R (insB k x l) (insB k' y m)
  | _, _, .nil => .cons h .nil
  | a :: l, b :: m, .cons q r => by
    unfold insB
    rw [hk _ _ q, hk _ _ h]
    cases lexL (k' b) (k' y) with
    | true => exact .cons q (Rl2.ins hk h r)
    | false => exact .cons h (.cons q r)
def IsTupV (h : Heap) (v : Value) (xs : List Value) : Prop := ∃ a o its n, v = .ref a ∧ h.get? a = some o ∧ o.cls = .type "tuple" ∧ o.data = .seq its n ∧ its.toList = xs
def cmpV : List Value → List Value → Bool → Prop
  | [], [], b => b = false
  | [], _ :: _, b => b = true
  | _ :: _, [], b => b = false
  | .int i _ :: r, .int j _ :: t, b => if i = j then cmpV r t b else b = decide (i < j)
  | .ref a :: r, .ref c :: t, b => a = c ∧ cmpV r t b
  | _, _, _ => False
section
open Srt SrtO
variable {prog : Program} {w : World} {A : Around} {E : Value → Shared → Prop} {s : Shared}
structure TupsOk (h : Heap) (vs : List Value) (it : Value → List Value) (k : Value → List Int) : Prop where
  tup : ∀ v ∈ vs, IsTupV h v (it v)
  fst : ∀ v ∈ vs, ∃ i t r, it v = .int i t :: r
  cmp : ∀ v ∈ vs, ∀ u ∈ vs, cmpV (it v) (it u) (lexL (k v) (k u))
end
section
variable {X : Cx}
end
def isSim : W → Bool
  | .int _ => true
  | .ref _ => true
  | _ => false
def tk1 : W → Option Int
  | .tup (.int i :: r) => if r.all isSim = true then some i else none
  | _ => none
def ndI : List Int → Bool
  | [] => true
  | a :: r => !r.contains a && ndI r
def k1 (w : W) : List Int := [(tk1 w).getD 0]
section
variable {G : GE} {X : Cx} {ρ : List Addr} {H : Hp} {p : Hh} {s : S}
end
end CC
set_option Elab.async false
set_option linter.all false
set_option maxRecDepth 100000
set_option maxHeartbeats 2000000
namespace CC
open PySem PySem.Spec PyProof.Rows L2
section
variable {G : GE} {X : Cx} {p : Hh} {E : WX} {a b : Expr} {mk mv : Lo → S → R W} {pos : Pos}
end
theorem Rl2.imp {α β : Type} {R S : α → β → Prop} (h : ∀ a b, R a b → S a b) : ∀ {l : List α} {m : List β}, Rl2 R l m → Rl2 S l m
  | _, _, .nil => .nil
  | _, _, .cons q r => .cons (h _ _ q) (Rl2.imp h r)
theorem Rl2.len {α β : Type} {R : α → β → Prop} : ∀ {l : List α} {m : List β}, Rl2 R l m → l.length = m.length
  | _, _, .nil => rfl
  | _, _, .cons _ r => by simp [Rl2.len r]
section
open Srt SrtO
variable {prog : Program} {w : World} {A : Around} {E : Value → Shared → Prop} {s : Shared}
end
section
variable {X : Cx}
end
section
variable {G : GE} {X : Cx} {ρ : List Addr} {H : Hp} {p : Hh} {s : S}
end
end CC
set_option Elab.async false
set_option linter.all false
set_option maxRecDepth 100000
set_option maxHeartbeats 2000000
namespace CC
open PySem PySem.Spec PyProof.Rows L2
section
variable {prog : Program} {w : World} {A : Around} {E : Value → Shared → Prop} {s : Shared} {K : PySem.W.Frag} {x C L f : Addr} {y : Value} {h₀ : Heap} {m : PySem.Str → Option Value} {ox : Obj} {od : Option Obj} {tb : Value}
end
section
variable {G : GE} {X : Cx} {k c : Nat} {f : Addr} {Fm : Hh → List W → R W} {E : WX} {ρ : List Addr} {H : Hp} {p : Hh} {s0 : S} {pins : List (Addr × Obj)} {s : Shared} {σ : L2.St}
end
section
variable {G : GE} {X : Cx} {k c : Nat} {f : Addr} {Fm : Hh → List W → R W} {E : WX}
end
end CC
set_option Elab.async false
set_option linter.all false
set_option maxRecDepth 100000
set_option maxHeartbeats 2000000
namespace CC
open PySem PySem.Spec PyProof.Rows L2
section
variable {G : GE} {p : Hh} {E : WX} {X : Cx} {k : Nat} {pos pos' : Pos} {ρ : List Addr} {H : Hp} {s : S} {l : Lo} {σ : L2.St}
variable {kx vx tg iter : Expr} {ifs : List Expr} {scope : Scope} {own : List (Str × Nat)} {ct : CTg} {mi : Lo → S → R ItD} {mt : Lo → S → R Bool} {mk mv : Lo → S → R W}
end
end CC
set_option Elab.async false
set_option linter.all false
set_option maxRecDepth 100000
namespace CC
open PySem PySem.Spec PyProof.Rows L2
section
variable {G : GE} {p : Hh} {X : Cx} {tgs : List Expr} {gs : List W → Lo → S → OG} {pos : Pos}
end
end CC
set_option Elab.async false
set_option linter.all false
set_option maxRecDepth 100000
namespace CC
open PySem PySem.Spec PyProof.Rows L2
def mnI : List Int → Option Int
  | [] => none
  | n :: ns => some (ns.foldl min n)
def mxI : List Int → Option Int
  | [] => none
  | n :: ns => some (ns.foldl max n)
section
variable {G : GE} {X : Cx}
end
end CC
set_option Elab.async false
set_option linter.all false
set_option maxRecDepth 100000
namespace CC
open PySem PySem.Spec PyProof.Rows L2
def evs {α : Type _} : List α → List α
  | [] => []
  | [x] => [x]
  | x :: _ :: l => x :: evs l
def evk {α : Type _} (b : Bool) (l : List α) : List α := if b then evs (l.drop 1) else evs l
section
variable {G : GE} {X : Cx} {ρ : List Addr} {H : Hp} {p : Hh} {s : S} {E : WX} {a : Expr} {mo : Lo → S → R W} {pos : Pos}
theorem RVs.evs : ∀ {ws : List W} {vs : List V}, RVs G ρ H ws vs → RVs G ρ H (evs ws) (evs vs)
  | _, _, .nil => .nil
  | _, _, .cons h .nil => .cons h .nil
  | _, _, .cons h (.cons _ t) => .cons h (RVs.evs t)
theorem RVs.evk {ws : List W} {vs : List V} (b : Bool) (h : RVs G ρ H ws vs) : RVs G ρ H (evk b ws) (evk b vs) := by
  unfold CC.evk
  split
  · exact (h.drop 1).evs
  · exact h.evs
end
end CC
set_option Elab.async false
set_option linter.all false
set_option maxRecDepth 100000
namespace CC
open PySem PySem.Spec PyProof.Rows L2
theorem gives_lt_bi (p : Bool) (j : Int) (t : Tok) : Gives (Builtin.«int.__lt__» ⟨[.bool p, .int j t], []⟩) (.val (Value.bool (decide (b2i p < j)))) :=
  .of_wp fun M A E s Q h => by obtain ⟨hp, g, d, tk, os⟩ := s; wp_walk; exact ⟨_, rfl, h⟩
theorem gives_gt_bi (p : Bool) (j : Int) (t : Tok) : Gives (Builtin.«int.__gt__» ⟨[.bool p, .int j t], []⟩) (.val (Value.bool (decide (b2i p > j)))) :=
  .of_wp fun M A E s Q h => by obtain ⟨hp, g, d, tk, os⟩ := s; wp_walk; exact ⟨_, rfl, h⟩
section
variable {prog : Program} {w : World} {A : Around} {E : Value → Shared → Prop} {s : Shared} {Q : Value → Shared → Prop}
theorem lt_bi {p : Bool} {j : Int} {t : Tok} (h : Q (.bool (decide (b2i p < j))) s) : wpAny (model prog w) A (compareOp .Lt (.bool p) (.int j t)) Q E s :=
  SeqAt.rc_left_or (op := .Lt) rfl (typeIs_int s j t) (by decide) F.sub_int_bool F.slot_bool_lt
    (call_gives F.slot_bool_lt rfl F.entry_int_lt (F.args_int_lt_2 _ _) (gives_lt_bi p j t) ⟨nofun, h⟩) (.inl rfl)
theorem lt_ib {i : Int} {t : Tok} {b : Bool} (h : Q (.bool (decide (i < b2i b))) s) : wpAny (model prog w) A (compareOp .Lt (.int i t) (.bool b)) Q E s :=
  SeqAt.rc_sub_first_or (op := .Lt) (typeIs_int s i t) rfl (by decide) F.sub_bool_int F.slot_bool_gt_refl
    (call_gives F.slot_bool_gt_refl rfl F.entry_int_gt (F.args_int_gt_2 _ _) (gives_gt_bi b i t) ⟨nofun, h⟩) (.inl rfl)
end
def vIB : V → Option Int
  | .int i => some i
  | .bl b => some (b2i b)
  | _ => none
def wIB : W → Option Int
  | .int i => some i
  | .bl b => some (b2i b)
  | _ => none
theorem wIB_ok {G : GE} {ρ : List Addr} {H : Hp} {w : W} {v : V} (r : RV G ρ H w v) {i : Int} (h : wIB w = some i) : vIB v = some i := by
  cases r <;> first | exact h | cases h
theorem op_ltB {X : Cx} : OpR X (compareOp .Lt) (fun x y H Q => ∃ i j, vIB x = some i ∧ vIB y = some j ∧ Q (.bl (decide (i < j))) H) := by
  intro pins s σ H x y v u Q I rx ry h
  obtain ⟨i, j, h1, h2, q⟩ := h
  cases x with
  | int i' =>
    cases h1
    obtain ⟨t, rfl⟩ := rx
    cases y with
    | int j' =>
      cases h2
      obtain ⟨t', rfl⟩ := ry
      exact lt_int ⟨.bl _, H, I, rfl, q⟩
    | bl b =>
      cases h2
      obtain rfl := ry
      exact lt_ib ⟨.bl _, H, I, rfl, q⟩
    | _ => cases h2
  | bl a =>
    cases h1
    obtain rfl := rx
    cases y with
    | int j' =>
      cases h2
      obtain ⟨t', rfl⟩ := ry
      exact lt_bi ⟨.bl _, H, I, rfl, q⟩
    | bl b =>
      cases h2
      obtain rfl := ry
      exact lt_bool ⟨.bl _, H, I, rfl, q⟩
    | _ => cases h2
  | _ => cases h1
def gLtB (_ : Hh) (x y : W) (s : S) : O2 := match wIB x, wIB y with
  | some i, some j => some (.bl (decide (i < j)), s)
  | _, _ => none
theorem i_ltB {G : GE} {X : Cx} : OpI G X (compareOp .Lt) gLtB := by
  refine opI_of op_ltB fun p ρ s H x y v u Q rp r1 r2 h => ?_
  unfold gLtB at h
  cases e1 : wIB x with
  | none => rw [e1] at h; exact h.elim
  | some i => cases e2 : wIB y with
    | none => rw [e1, e2] at h; exact h.elim
    | some j =>
      rw [e1, e2] at h
      exact ⟨i, j, wIB_ok r1 e1, wIB_ok r2 e2, po_v h rp (.bl _)⟩
section
variable {A : Around} {E : Value → Shared → Prop} {s : Shared} {prog : Program} {w : World}
theorem wpAny_listSubscript_bool {b : Bool} {Q : Option Int → Shared → Prop} (h : Q (some (b2i b)) s) :
    wpAny (model prog w) A (Builtin.List.listSubscript? (.bool b)) Q E s := by
  unfold Builtin.List.listSubscript?
  refine wpAny_bind (wpAny_specialOf (T := "bool") rfl F.slot_bool_index.lookup ?_)
  show wpAny _ A (asIndex (.bool b) >>= _) Q E s
  refine wpAny_bind (wpAny_of_eq (a := b2i b) (by cases b <;> rfl) ?_)
  show wpAny _ A (if (!Builtin.List.listFitsIndex (b2i b)) = true then _ else _) Q E s
  rw [if_neg (by cases b <;> decide)]
  exact wpAny_pure h
theorem ki_setB {l : Addr} {items : Array Value} {n : Nat} {b : Bool} {v : Value} {Q : Unit → Shared → Prop} (ho : s.heap.get? l = some { cls := .type "list", data := .seq items n }) (hn : (b2i b).toNat < items.size)
    (hQ : Q () { s with heap := s.heap.update l (Obj.mapSeq (·.setIfInBounds (b2i b).toNat v)) }) : wpAny (model prog w) A (setItem (.ref l) (.bool b) v) Q E s := by
  have hl : s.heap.IsList l items := PySem.IsL.isList (n := n) ho
  unfold setItem
  try with_reducible refine wpAny_holding ?_
  first | refine wpAny_bind (wpAny_pure ?_) | skip
  refine wpAny_bind (wpAny_sequenceKey hl.typeIs (by decide) ?_)
  refine wpAny_bind (wpAny_callSpecial?_slot (name := Str.ofString "__setitem__") hl.typeIs slot_list_setitem
    (wpAny_call_entry slot_list_setitem hl.typeIs entry_list_setitem ?_ (args_list_setitem _ _ _)))
  show wpAny _ _ (Builtin.List.listSubscript? (.bool b) >>= _) _ _ s
  refine wpAny_bind (wpAny_listSubscript_bool ?_)
  obtain ⟨j, hj⟩ : ∃ j : Nat, b2i b = (j : Int) := by cases b <;> exact ⟨_, rfl⟩
  rw [hj] at hn hQ ⊢
  have hj : j < items.size := by simpa using hn
  have hx' : items[j]? = some items[j] := Array.getElem?_eq_getElem hj
  show wpAny _ _ ((seqItemAt l j >>= fun r => pure (r.map (j, ·))) >>= _) _ _ s
  refine wpAny_bind (wpAny_bind (wpAny_seqItemAt ho rfl (wpAny_pure ?_)))
  rw [hx']
  show wpAny _ _ (setSeqItemAt l j v >>= _) _ _ s
  refine wpAny_bind (wpAny_setSeqItemAt ho rfl ?_)
  first
    | exact wpAny_bind (wpAny_pure (wpAny_pure ⟨.none, rfl, wpAny_pure hQ⟩))
    | exact wpAny_pure ⟨.none, rfl, wpAny_pure hQ⟩
end
theorem set_listB {X : Cx} : PSet X (fun o i v H Q => ∃ p xs b, o = .ref p ∧ i = .bl b ∧ H p = some (.lst xs) ∧ (b2i b).toNat < xs.length ∧ Q (upd H p (.lst (xs.set (b2i b).toNat v)))) := by
  intro pins s σ H o i v ov iv u Q I ro ri rv h
  obtain ⟨p, xs, b, rfl, rfl, hp, hj, q⟩ := h
  cases ro
  obtain rfl := ri
  obtain ⟨its, n, r, ho, hz⟩ := I.lst hp
  have hl := r.length
  have I' : Inv X pins σ (upd H p (.lst (xs.set (b2i b).toNat v))) { s with heap := s.heap.update p (Obj.mapSeq (·.setIfInBounds (b2i b).toNat u)) } :=
    I.lstUpd hp ho (mapSeq_set its n _ u) (r.set rv _) (by rw [List.length_set]; exact hz) s.toks
  exact ki_setB ho (by rw [List.size_toArray, ← hl]; exact hj) ⟨_, I', q⟩
def gBI (_ : Hh) (x : W) (s : S) : O2 := match wIB x with
  | some i => some (.int i, s)
  | none => none
def isL (p : Hh) (s : S) (o : W) : Bool := match o with
  | .ref n => (match rd p s n with | some (.lst _) => true | _ => false)
  | _ => false
def gSetXB (p : Hh) (o i w : W) (s : S) : Option S := match wIB i with
  | some j => if isL p s o = true then gSetX p o (.int j) w s else none
  | none => none
theorem s_setxB {G : GE} {X : Cx} (hu : X.A.units + 1 < cLine) : SetI G X gSetXB := by
  intro p pins sh σ H ov iv v ov' iv' u Q I ro ri rv ⟨ρ, s, wo, wi, w, rp, r1, r2, r3, h⟩
  unfold gSetXB at h
  cases e1 : wIB wi with
  | none => rw [e1] at h; exact h.elim
  | some j =>
    rw [e1] at h
    dsimp only at h
    by_cases il : isL p s wo = true
    · rw [if_pos il] at h
      cases wi with
      | int j' => cases e1; exact s_setx hu p pins sh σ H ov iv v ov' iv' u Q I ro ri rv ⟨ρ, s, wo, .int j, w, rp, r1, r2, r3, h⟩
      | bl b =>
        cases e1
        unfold gSetX at h
        cases r1 with
        | @ref n a e =>
          unfold isL at il
          dsimp only at h il
          cases z : rd p s n with
          | none => rw [z] at h; exact h.elim
          | some ob =>
            rw [z] at h il
            obtain ⟨hu', hh, q⟩ := rp.at z e
            have x : ∀ u, Ex ρ H ρ (upd H a u) := fun u => ⟨⟨[], by simp⟩, fun _ h n => absurd h n, fun b o n h => by
              have nb : b ≠ a := fun z => n (by rw [z]; exact List.mem_of_getElem? e)
              rw [upd_ne nb]; exact h⟩
            cases q with
            | @lst ws vs r =>
              dsimp only at h
              cases r2
              cases ej : ixN ws.length (b2i b) with
              | none => rw [ej] at h; exact h.elim
              | some k =>
                rw [ej] at h
                obtain ⟨x2, rp2⟩ := rp.wr_ (u := .lst (vs.set k v)) e (.lst ((r.mono (x _)).set k (r3.mono (x _))))
                have hk : (b2i b).toNat = k ∧ k < ws.length := by
                  unfold ixN at ej
                  cases b <;> (simp [b2i] at ej ⊢; omega)
                refine set_listB pins sh σ H _ _ v ov' iv' u Q I ro ri rv ⟨a, vs, b, rfl, rfl, hh, by rw [hk.1, ← r.len]; exact hk.2, ?_⟩
                rw [hk.1]
                exact h _ x2 rp2
            | _ => cases il
        | _ => cases il
      | _ => cases e1
    · rw [if_neg il] at h; exact h.elim
theorem gSubTB {p : Hh} {mo mi : Lo → S → R W} {w : W} {l : Lo} {s : S} (h : ∀ o s1 i s2, mo l s = .ok o s1 → mi l s1 = .ok i s2 → isL p s2 o = true) : gSubT gSetXB p mo mi w l s = gSubT gSetX p mo (eUn gBI p mi) w l s := by
  unfold gSubT
  cases e1 : mo l s with
  | ok o s1 =>
    dsimp only
    unfold eUn
    cases e2 : mi l s1 with
    | ok i s2 =>
      dsimp only
      unfold gSetXB R.bind gBI
      dsimp only
      cases wIB i with
      | none => rfl
      | some j =>
        dsimp only
        rw [if_pos (h o s1 i s2 e1 e2)]
        rfl
    | _ => rfl
  | _ => rfl
theorem tuple_mul1 (l : Addr) (items : Array Value) (n : Nat) (dd : Option Addr) (sl : Array (Option Value)) (u : Tok) :
    Meets (Builtin.«tuple.__mul__» ⟨[.ref l, .int 1 u], []⟩) (fun _ R s => s.heap.get? l = some { cls := .type "tuple", dict := dd, data := .seq items n, slots := sl } ∧
      R (.ok (.ret (Value.ref l))) s) :=
  .of_wp fun prog w A R s h => by
    obtain ⟨hp, g, d, tk, os⟩ := s
    obtain ⟨hl, h⟩ := h
    have f1 := AutoSeq1.idx_int
    have c1 : (items.isEmpty || (1 : Int) == 1) = true := by simp
    wp_walk using wpAny_loadPart' hl
    repeat (first
      | (refine wpAny_ite_true (by rw [c1]) ?_; wp_walk using wpAny_loadPart' hl))
    exact ⟨_, rfl, h⟩
theorem op_repT1 {X : Cx} : OpR X (binaryOp .Mult) (fun x y H Q => ∃ l xs, x = .ref l ∧ y = .int 1 ∧ SqT X.K H l xs ∧ Q (.ref l) H) := by
  intro pins s σ H x y v u Q I rx ry h
  obtain ⟨l, xs, rfl, rfl, hT, q⟩ := h
  cases rx
  obtain ⟨t, rfl⟩ := ry
  obtain ⟨its, r, ⟨⟨cls, dd, data, sl⟩, ho, hc, n, hd⟩, hs⟩ := I.tuple hT
  simp only at hc hd
  subst hc hd
  refine wpAny_binaryOp_repeat_ref (T := "tuple") (U := "int") (by decide) ⟨_, ho, rfl⟩ (fun s' => typeIs_int s' 1 t) noFill_tuple_mul F.fills_int_mul F.slot_int_rmul repeat_tuple F.slot_int_index.lookup
    (call_meets F.slot_int_rmul (typeIs_int s 1 t) F.entry_int_rmul (F.args_int_rmul_2 _ _) (int_rmul_tuple 1 t l its.toArray n dd sl)
      ⟨ho, rfl, ⟨_, ho, rfl⟩, call_meets F.slot_tuple_mul ⟨_, ho, rfl⟩ F.entry_tuple_mul (F.args_tuple_mul_2 _ _) (tuple_mul1 l its.toArray n dd sl t) ⟨ho, ?_⟩⟩)
  exact ⟨.ref l, H, I, rfl, q⟩
def gMul1 (p : Hh) (x y : W) (s : S) : O2 := match x, y with
  | .tup a, .int k => if k = 1 then some (.tup a, s) else gMul p (.tup a) (.int k) s
  | x, y => gMul p x y s
theorem i_mul1 {G : GE} {X : Cx} : OpI G X (binaryOp .Mult) gMul1 := by
  intro p pins s0 σ H v u v' u' Q I rv ru ⟨ρ, s, x, y, rp, r1, r2, h⟩
  have gen : PoO G p ρ H (gMul p x y s) Q → _ := fun h => i_mul p pins s0 σ H v u v' u' Q I rv ru ⟨ρ, s, x, y, rp, r1, r2, h⟩
  unfold gMul1 at h
  split at h
  · rename_i a k
    split at h
    · rename_i e
      subst e
      cases r1 with
      | @tup b ws vs na ha r =>
        cases r2
        exact op_repT1 pins s0 σ H _ _ v' u' Q I rv ru ⟨b, vs, rfl, rfl, SqT.of ha, po_v h rp (.tup na ha r)⟩
    · exact gen h
  · exact gen h
end CC
set_option Elab.async false
set_option linter.all false
set_option maxRecDepth 100000
set_option maxHeartbeats 4000000
namespace K35
open PySem PySem.Spec PyProof.Rows L2 CC
def top (i : Nat) : Stmt := PySem.Challenge.pw_cupcap_k35_halves_recognized.main.body.getD i (.Pass ⟨0, 0, 0, 0⟩)
def fldG : Nat → List Str
  | _ => []
abbrev GG (gc : Nat → Addr) : GE := GE.of gc fldG
abbrev s__law_is_half : Stmt := top 11
abbrev s__law_take : Stmt := top 9
abbrev s__law_modified : Stmt := top 12
abbrev s__law_pool : Stmt := top 8
abbrev s__law_random_half : Stmt := top 10
abbrev s_is_integer : Stmt := top 2
abbrev s_is_columns : Stmt := top 3
abbrev s_is_planar : Stmt := top 5
abbrev s_is_half : Stmt := top 6
abbrev s_law : Stmt := top 13
def b__law_is_half (p : Hh) : Lo → S → RS :=
    (sSeq (sIf (tOrT (tNotT (tVal (eIsi p (qTup []) (eVar 0)))) (tNotT (tVal (eChain gLe gLe p (eC (.int 1)) (eB fLen p (aCons (eVar 0) aNil)) (eC (.int 16)))))) (sRet (eC (.bl false))) sNx)
    (sSeq (sFor p (gNm 1) (iRange1 (eB fLen p (aCons (eVar 0) aNil))) (sSeq (sAsg (gNm 2) (eIx p (eVar 0) (eVar 1)))
    (sIf (tVal (eBin gIsN p (eVar 2) (eC .non))) (sSeq (sIf (tOrT (tNotT (tVal (eIsi p (qInt []) (eVar 2)))) (tOrT (tVal (eIsi p (qBool []) (eVar 2))) (tNotT (tVal (eChain gLe gLtB p (eC (.int 0)) (eVar 2) (eB fLen p (aCons (eVar 0) aNil))))))) (sRet (eC (.bl false))) sNx)
    (sSeq (sIf (tOrT (tVal (eBin gEq p (eVar 2) (eVar 1))) (tVal (eBin gNe p (eIx p (eVar 0) (eVar 2)) (eVar 1)))) (sRet (eC (.bl false))) sNx)
    (sSeq (sAsg (gNm 3) (eSl p (eVar 0) (oSo (eBin gAdd p (eB fMin2 p (aCons (eVar 1) (aCons (eVar 2) aNil))) (eC (.int 1)))) (oSo (eB fMax2 p (aCons (eVar 1) (aCons (eVar 2) aNil))))))
    (sSeq (sIf (tVal (eBin gInA p (eC .non) (eVar 3))) (sRet (eC (.bl false))) sNx)
    (sSeq (sAsg (gTupT 2 (gsCons (gNm 4) (gsCons (gNm 5) gsNil))) (eTup (aCons (eB fMin2 p (aCons (eVar 1) (aCons (eVar 2) aNil))) (aCons (eB fMax2 p (aCons (eVar 1) (aCons (eVar 2) aNil))) aNil))))
    (sIf (tVal (eBin gNe p (eLc p (CTg.nm 6) (iSeq (eVar 3) p) (tAndT (tVal (eIsi p (qInt []) (eVar 6))) (tNotT (tVal (eChain gLtB gLtB p (eVar 4) (eVar 6) (eVar 5))))) (eVar 6)) (eLst p aNil))) (sRet (eC (.bl false))) sNx)))))) sNx)))
    (sRet (eC (.bl true)))))
def m__law_is_half : Hh → List W → R W := fnI 1 7 b__law_is_half
def b__law_take (p : Hh) : Lo → S → RS :=
    (sSeq (sIf (tVal (eBin gGt p (eIx p (eVar 0) (eC (.int 0))) (eC (.int 0)))) (sSeq (sAsg (gNm 2) (eBin gMod p (eIx p (eVar 0) (eC (.int 0))) (eVar 1)))
    (sSeq (sAsg (gSubT gSetX p (eVar 0) (eC (.int 0))) (eBin gFdiv p (eIx p (eVar 0) (eC (.int 0))) (eVar 1)))
    (sRet (eVar 2)))) sNx)
    (sSeq (sAsg (gSubT gSetX p (eVar 0) (eC (.int 1))) (eBin gMod p (eBin gAdd p (eBin gMul p (eIx p (eVar 0) (eC (.int 1))) (eC (.int 48271))) (eC (.int 12345))) (eC (.int 2147483647))))
    (sRet (eBin gMod p (eBin gFdiv p (eBin gMod p (eBin gMul p (eIx p (eVar 0) (eC (.int 1))) (eIx p (eVar 0) (eC (.int 1)))) (eC (.int 2147483629))) (eC (.int 64))) (eVar 1)))))
def m__law_take : Hh → List W → R W := fnI 2 3 b__law_take
def b__law_modified (p : Hh) : Lo → S → RS :=
    (sSeq (sPar2 2 3 (aCons (eCall m__law_take p [] (aCons (eVar 0) (aCons (eB fLen p (aCons (eVar 1) aNil)) aNil))) (aCons (eCall m__law_take p [] (aCons (eVar 0) (aCons (eB fLen p (aCons (eVar 1) aNil)) aNil))) aNil)))
    (sSeq (sAsg (gNm 4) (eCall m__law_take p [] (aCons (eVar 0) (aCons (eC (.int 9)) aNil))))
    (sSeq (sIf (tVal (eBin gEq p (eVar 4) (eC (.int 0)))) (sSeq (sAsg (gNm 5) (eIx p (eLst p (aCons (eB fLen p (aCons (eVar 1) aNil)) (aCons (eUn gNeg p (eC (.int 1))) (aCons (eC (.bl true)) (aCons (eC (.bl false)) (aCons (eC (.str "0")) (aCons (eTup (aCons (eC (.int 0)) aNil)) (aCons (eBin gPow p (eC (.int 10)) (eC (.int 20))) aNil)))))))) (eCall m__law_take p [] (aCons (eVar 0) (aCons (eC (.int 7)) aNil)))))
    (sRet (eBin gAdd p (eBin gAdd p (eSl p (eVar 1) oNo (oSo (eVar 2))) (eTup (aCons (eVar 5) aNil))) (eSl p (eVar 1) (oSo (eBin gAdd p (eVar 2) (eC (.int 1)))) oNo)))) sNx)
    (sSeq (sIf (tVal (eBin gEq p (eVar 4) (eC (.int 1)))) (sRet (eBin gAdd p (eBin gAdd p (eSl p (eVar 1) oNo (oSo (eVar 2))) (eTup (aCons (eC .non) aNil))) (eSl p (eVar 1) (oSo (eBin gAdd p (eVar 2) (eC (.int 1)))) oNo))) sNx)
    (sSeq (sIf (tVal (eBin gEq p (eVar 4) (eC (.int 2)))) (sRet (eBin gAdd p (eBin gAdd p (eSl p (eVar 1) oNo (oSo (eVar 2))) (eTup (aCons (eVar 3) aNil))) (eSl p (eVar 1) (oSo (eBin gAdd p (eVar 2) (eC (.int 1)))) oNo))) sNx)
    (sSeq (sIf (tVal (eBin gEq p (eVar 4) (eC (.int 3)))) (sRet (eBin gAdd p (eSl p (eVar 1) oNo (oSo (eVar 2))) (eSl p (eVar 1) (oSo (eBin gAdd p (eVar 2) (eC (.int 1)))) oNo))) sNx)
    (sSeq (sIf (tVal (eBin gEq p (eVar 4) (eC (.int 4)))) (sRet (eBin gAdd p (eBin gAdd p (eSl p (eVar 1) oNo (oSo (eVar 2))) (eTup (aCons (eIx p (eLst p (aCons (eC .non) (aCons (eVar 2) aNil))) (eCall m__law_take p [] (aCons (eVar 0) (aCons (eC (.int 2)) aNil)))) aNil))) (eSl p (eVar 1) (oSo (eVar 2)) oNo))) sNx)
    (sSeq (sAsg (gNm 6) (eB fList p (aCons (eVar 1) aNil)))
    (sSeq (sIf (tVal (eBin gEq p (eVar 4) (eC (.int 5)))) (sSeq (sAsg (gTupT 2 (gsCons (gSubT gSetXB p (eVar 6) (eVar 2)) (gsCons (gSubT gSetXB p (eVar 6) (eVar 3)) gsNil))) (eTup (aCons (eVar 3) (aCons (eVar 2) aNil))))
    (sRet (eB fTuple p (aCons (eVar 6) aNil)))) sNx)
    (sSeq (sIf (tVal (eBin gEq p (eVar 4) (eC (.int 6)))) (sSeq (sAsg (gTupT 2 (gsCons (gSubT gSetXB p (eVar 6) (eVar 2)) (gsCons (gSubT gSetXB p (eVar 6) (eVar 3)) gsNil))) (eTup (aCons (eIx p (eVar 1) (eVar 3)) (aCons (eIx p (eVar 1) (eVar 2)) aNil))))
    (sRet (eB fTuple p (aCons (eVar 6) aNil)))) sNx)
    (sSeq (sAsg (gNm 7) (eLc p (CTg.pr 12 13) (iEnm (eVar 1) p) (tAndT (tVal (eIsi p (qInt []) (eVar 13))) (tVal (eChain gLtB gLtB p (eVar 12) (eVar 13) (eB fLen p (aCons (eVar 1) aNil))))) (eTup (aCons (eVar 12) (aCons (eVar 13) aNil)))))
    (sSeq (sIf (tVal (eBin gEq p (eVar 7) (eLst p aNil))) (sRet (eBin gAdd p (eVar 1) (eTup (aCons (eC .non) aNil)))) sNx)
    (sSeq (sPar2 8 9 (aCons (eIx p (eVar 7) (eCall m__law_take p [] (aCons (eVar 0) (aCons (eB fLen p (aCons (eVar 7) aNil)) aNil)))) (aCons (eIx p (eVar 7) (eCall m__law_take p [] (aCons (eVar 0) (aCons (eB fLen p (aCons (eVar 7) aNil)) aNil)))) aNil)))
    (sSeq (sFor p (gTupT 2 (gsCons (gNm 10) (gsCons (gNm 11) gsNil))) (iSeq (eLst p (aCons (eTup (aCons (eIx p (eVar 8) (eC (.int 0))) (aCons (eIx p (eVar 9) (eC (.int 0))) aNil))) (aCons (eTup (aCons (eIx p (eVar 8) (eC (.int 1))) (aCons (eIx p (eVar 9) (eC (.int 1))) aNil))) aNil))) p) (sAsg (gTupT 2 (gsCons (gSubT gSetXB p (eVar 6) (eVar 10)) (gsCons (gSubT gSetXB p (eVar 6) (eVar 11)) gsNil))) (eTup (aCons (eVar 11) (aCons (eVar 10) aNil)))))
    (sRet (eB fTuple p (aCons (eVar 6) aNil)))))))))))))))))
def m__law_modified : Hh → List W → R W := fnI 2 14 b__law_modified
def b__law_pool (p : Hh) : Lo → S → RS :=
    (sSeq (sAsg (gNm 2) (eC (.int 0)))
    (sSeq (sIf (tVal (eBin gLt p (eVar 1) (eB fLen p (aCons (eVar 0) aNil)))) (sAsg (gNm 2) (eB fAbs p (aCons (eIx p (eVar 0) (eVar 1)) aNil))) sNx)
    (sSeq (sAsg (gNm 3) (eBin gMod p (eBin gMul p (eBin gAdd p (eBin gAdd p (eBin gAdd p (eBin gMod p (eVar 2) (eC (.int 2147483629))) (eBin gMul p (eBin gMul p (eC (.int 7919)) (eVar 1)) (eVar 1))) (eBin gMul p (eC (.int 31)) (eVar 1))) (eC (.int 17))) (eC (.int 48271))) (eC (.int 2147483647))))
    (sRet (eLst p (aCons (eBin gMul p (eVar 2) (eB fInt p (aCons (eBin gGe p (eVar 2) (eBin gPow p (eC (.int 10)) (eC (.int 18)))) aNil))) (aCons (eBin gMod p (eBin gMul p (eVar 3) (eVar 3)) (eC (.int 2147483629))) aNil)))))))
def m__law_pool : Hh → List W → R W := fnI 2 4 b__law_pool
def b__law_random_half (p : Hh) : Lo → S → RS :=
    (sSeq (sPar2 2 3 (aCons (eBin gMul p (eLst p (aCons (eC .non) aNil)) (eVar 1)) (aCons (eLst p aNil) aNil)))
    (sSeq (sFor p (gNm 4) (iRange1 (eVar 1)) (sSeq (sAsg (gNm 5) (eBin gGe p (eB fLen p (aCons (eVar 3) aNil)) (eBin gSub p (eBin gSub p (eVar 1) (eVar 4)) (eC (.int 1)))))
    (sIf (tAndT (tVal (eBin gNe p (eVar 3) (eLst p aNil))) (tOrT (tVal (eVar 5)) (tVal (eBin gEq p (eCall m__law_take p [] (aCons (eVar 0) (aCons (eC (.int 2)) aNil))) (eC (.int 0)))))) (sSeq (sAsg (gNm 6) (eBm isLst fPop p (eVar 3) aNil))
    (sAsg (gTupT 2 (gsCons (gSubT gSetX p (eVar 2) (eVar 4)) (gsCons (gSubT gSetX p (eVar 2) (eVar 6)) gsNil))) (eTup (aCons (eVar 6) (aCons (eVar 4) aNil))))) (sIf (tAndT (tVal (eBin gLt p (eB fLen p (aCons (eVar 3) aNil)) (eBin gSub p (eBin gSub p (eVar 1) (eVar 4)) (eC (.int 1))))) (tOrT (tVal (eBin gNe p (eVar 3) (eLst p aNil))) (tVal (eBin gGt p (eCall m__law_take p [] (aCons (eVar 0) (aCons (eC (.int 3)) aNil))) (eC (.int 0)))))) (sEx (eBm isLst fAppend p (eVar 3) (aCons (eVar 4) aNil))) sNx))))
    (sRet (eB fTuple p (aCons (eVar 2) aNil)))))
def m__law_random_half : Hh → List W → R W := fnI 2 7 b__law_random_half
def b_is_integer (p : Hh) : Lo → S → RS :=
    (sRet (eAndV (eIsi p (qInt []) (eVar 0)) (eAndV (eNotV (eIsi p (qBool []) (eVar 0))) (eBin gGe p (eVar 0) (eVar 1)))))
def m_is_integer : Hh → List W → R W := fnI 2 2 b_is_integer
def b_is_columns (p : Hh) : Lo → S → RS :=
    (sRet (eAndV (eCall m_is_integer p [] (aCons (eVar 0) (aCons (eC (.int 1)) aNil))) (eBin gLe p (eVar 0) (eC (.int 16)))))
def m_is_columns : Hh → List W → R W := fnI 1 1 b_is_columns
def b_is_planar (p : Hh) : Lo → S → RS :=
    (sSeq (sAsg (gNm 1) (eLst p aNil))
    (sSeq (sFor p (gTupT 2 (gsCons (gNm 2) (gsCons (gNm 3) gsNil))) (iEnm (eVar 0) p) (sIf (tVal (eBin gIs p (eVar 3) (eC .non))) (sIf (tVal (eBin gNe p (eVar 1) (eLst p aNil))) (sRet (eC (.bl false))) sNx) (sIf (tVal (eBin gGt p (eVar 3) (eVar 2))) (sEx (eBm isLst fAppend p (eVar 1) (aCons (eVar 2) aNil))) (sIf (tVal (eBin gNe p (eBm isLst fPop p (eVar 1) aNil) (eVar 3))) (sRet (eC (.bl false))) sNx))))
    (sRet (eC (.bl true)))))
def m_is_planar : Hh → List W → R W := fnI 1 4 b_is_planar
def b_is_half (p : Hh) : Lo → S → RS :=
    (sSeq (sIf (tOrT (tNotT (tVal (eIsi p (qTup []) (eVar 0)))) (tNotT (tVal (eCall m_is_columns p [] (aCons (eB fLen p (aCons (eVar 0) aNil)) aNil))))) (sRet (eC (.bl false))) sNx)
    (sSeq (sIf (tNotT (tVal (eB fAll p (aCons (eLc p (CTg.nm 1) (iSeq (eVar 0) p) tTrue (eOrV (eBin gIs p (eVar 1) (eC .non)) (eAndV (eCall m_is_integer p [.int 0] (aCons (eVar 1) aNil)) (eBin gLt p (eVar 1) (eB fLen p (aCons (eVar 0) aNil)))))) aNil)))) (sRet (eC (.bl false))) sNx)
    (sSeq (sIf (tNotT (tVal (eB fAll p (aCons (eLc p (CTg.pr 2 1) (iEnm (eVar 0) p) tTrue (eOrV (eBin gIs p (eVar 1) (eC .non)) (eChain gEq gNe p (eIx p (eVar 0) (eVar 1)) (eVar 2) (eVar 1)))) aNil)))) (sRet (eC (.bl false))) sNx)
    (sRet (eCall m_is_planar p [] (aCons (eVar 0) aNil))))))
def m_is_half : Hh → List W → R W := fnI 1 3 b_is_half
def b_law (p : Hh) : Lo → S → RS :=
    (sSeq (sIf (tVal (eBin gNe p (eLc p (CTg.nm 8) (iSeq (eLst p (aCons (eTup (aCons (eLst p aNil) aNil)) (aCons (eTup (aCons (eDct p) aNil)) (aCons (eTup (aCons (eC .non) (aCons (eLst p (aCons (eC (.int 0)) aNil)) aNil))) (aCons (eTup (aCons (eTup aNil) aNil)) (aCons (eTup (aCons (eLst p aNil) (aCons (eC (.int 0)) aNil))) aNil)))))) p) (tVal (eBin gIsN p (eCall m_is_half p [] (aCons (eVar 8) aNil)) (eC (.bl false)))) (eVar 8)) (eLst p aNil))) (sRet (eC (.bl false))) sNx)
    (sSeq (sFor p (gNm 1) (iSeq (eLst p (aCons (eC .non) (aCons (eC (.int 5)) (aCons (eC (.str "")) (aCons (eTup aNil) (aCons (eLst p aNil) (aCons (eDct p) (aCons (eC (.bl true)) (aCons (eLst p (aCons (eC .non) aNil)) (aCons (eBin gMul1 p (eTup (aCons (eC .non) aNil)) (eC (.int 17))) (aCons (eTup (aCons (eTup (aCons (eC (.int 0)) aNil)) aNil)) (aCons (eTup (aCons (eC (.int 0)) aNil)) (aCons (eBin gMul1 p (eTup (aCons (eC (.int 1)) (aCons (eC (.int 0)) (aCons (eC .non) (aCons (eC .non) aNil))))) (eC (.int 5))) aNil))))))))))))) p) (sIf (tVal (eBin gIsN p (eCall m_is_half p [] (aCons (eVar 1) aNil)) (eC (.bl false)))) (sRet (eC (.bl false))) sNx))
    (sSeq (sIf (tOrT (tVal (eBin gIsN p (eCall m_is_half p [] (aCons (eTup (aCons (eC .non) aNil)) aNil)) (eC (.bl true)))) (tOrT (tVal (eBin gIsN p (eCall m_is_half p [] (aCons (eBin gMul1 p (eTup (aCons (eC .non) aNil)) (eC (.int 16))) aNil)) (eC (.bl true)))) (tVal (eBin gIsN p (eCall m_is_half p [] (aCons (eBin gMul1 p (eTup (aCons (eC (.int 1)) (aCons (eC (.int 0)) aNil))) (eC (.int 1))) aNil)) (eC (.bl true)))))) (sRet (eC (.bl false))) sNx)
    (sSeq (sFor p (gNm 2) (iRange1 (eB fMax2 p (aCons (eC (.int 1)) (aCons (eB fMin2 p (aCons (eC (.int 10)) (aCons (eB fLen p (aCons (eVar 0) aNil)) aNil))) aNil)))) (sSeq (sAsg (gNm 3) (eCall m__law_pool p [] (aCons (eVar 0) (aCons (eVar 2) aNil))))
    (sSeq (sAsg (gNm 4) (eCall m__law_random_half p [] (aCons (eVar 3) (aCons (eBin gAdd p (eC (.int 1)) (eCall m__law_take p [] (aCons (eVar 3) (aCons (eC (.int 16)) aNil)))) aNil))))
    (sSeq (sIf (tOrT (tVal (eBin gIsN p (eCall m_is_half p [] (aCons (eVar 4) aNil)) (eC (.bl true)))) (tVal (eBin gIsN p (eCall m_is_half p [] (aCons (eB fList p (aCons (eVar 4) aNil)) aNil)) (eC (.bl false))))) (sRet (eC (.bl false))) sNx)
    (sFor p (gNm 5) (iRange1 (eC (.int 20))) (sSeq (sAsg (gNm 6) (eCall m__law_modified p [] (aCons (eVar 3) (aCons (eVar 4) aNil))))
    (sSeq (sAsg (gNm 6) (eIf (tAndT (tVal (eBin gEq p (eBin gMod p (eVar 5) (eC (.int 3))) (eC (.int 2)))) (tVal (eBin gNe p (eVar 6) (eTup aNil)))) (eCall m__law_modified p [] (aCons (eVar 3) (aCons (eVar 6) aNil))) (eVar 6)))
    (sSeq (sAsg (gNm 7) (eB fRepr p (aCons (eVar 6) aNil)))
    (sIf (tOrT (tVal (eBin gNe p (eB fRepr p (aCons (eCall m_is_half p [] (aCons (eVar 6) aNil)) aNil)) (eB fRepr p (aCons (eCall m__law_is_half p [] (aCons (eVar 6) aNil)) aNil)))) (tVal (eBin gNe p (eB fRepr p (aCons (eVar 6) aNil)) (eVar 7)))) (sRet (eC (.bl false))) sNx)))))))))
    (sRet (eC (.bl true)))))))
def m_law : Hh → List W → R W := fnI 1 9 b_law
structure TT (mg : Str → Option Value) (T_MAX_COLUMNS : Tok) : Prop where
  n_abs : mg "abs" = none
  n_all : mg "all" = none
  n_bool : mg "bool" = none
  n_enumerate : mg "enumerate" = none
  n_int : mg "int" = none
  n_isinstance : mg "isinstance" = none
  n_len : mg "len" = none
  n_list : mg "list" = none
  n_max : mg "max" = none
  n_min : mg "min" = none
  n_range : mg "range" = none
  n_repr : mg "repr" = none
  n_tuple : mg "tuple" = none
  c_MAX_COLUMNS : mg "MAX_COLUMNS" = some (.int 16 T_MAX_COLUMNS)
structure MM (mg : Str → Option Value) (f__law_is_half : Addr) (f__law_take : Addr) (f__law_modified : Addr) (f__law_pool : Addr) (f__law_random_half : Addr) (f_is_integer : Addr) (f_is_columns : Addr) (f_is_planar : Addr) (f_is_half : Addr) (f_law : Addr) : Prop where
  m__law_is_half : mg "_law_is_half" = some (.ref f__law_is_half)
  m__law_take : mg "_law_take" = some (.ref f__law_take)
  m__law_modified : mg "_law_modified" = some (.ref f__law_modified)
  m__law_pool : mg "_law_pool" = some (.ref f__law_pool)
  m__law_random_half : mg "_law_random_half" = some (.ref f__law_random_half)
  m_is_integer : mg "is_integer" = some (.ref f_is_integer)
  m_is_columns : mg "is_columns" = some (.ref f_is_columns)
  m_is_planar : mg "is_planar" = some (.ref f_is_planar)
  m_is_half : mg "is_half" = some (.ref f_is_half)
  m_law : mg "law" = some (.ref f_law)
structure CF (mg : Str → Option Value) (K : PySem.W.Frag) (gc : Nat → Addr) (f__law_is_half : Addr) (f__law_take : Addr) (f__law_modified : Addr) (f__law_pool : Addr) (f__law_random_half : Addr) (f_is_integer : Addr) (f_is_columns : Addr) (f_is_planar : Addr) (f_is_half : Addr) (f_law : Addr) : Prop where
section
variable {P : Program} {w : World} {K : PySem.W.Frag} {mg : Str → Option Value} {base : Heap} {gc : Nat → Addr} {T_MAX_COLUMNS : Tok} {f__law_is_half : Addr} {f__law_take : Addr} {f__law_modified : Addr} {f__law_pool : Addr} {f__law_random_half : Addr} {f_is_integer : Addr} {f_is_columns : Addr} {f_is_planar : Addr} {f_is_half : Addr} {f_law : Addr}
theorem sc__law_is_half : FnScope ["_law_value", "_law_column", "_law_other", "_law_inside", "_law_low", "_law_high", "_law_end"] ["_law_value"] (defScope s__law_is_half) := ⟨rfl, rfl, rfl, by decide +kernel, rfl, by decide +kernel, by decide +kernel⟩
theorem d__law_is_half {fd : FuncData} (T : TT mg T_MAX_COLUMNS) (M : MM mg f__law_is_half f__law_take f__law_modified f__law_pool f__law_random_half f_is_integer f_is_columns f_is_planar f_is_half f_law) (Z : CF mg K gc f__law_is_half f__law_take f__law_modified f__law_pool f__law_random_half f_is_integer f_is_columns f_is_planar f_is_half f_law) (F : Fun K "_law_is_half" "_law_is_half" s__law_is_half f__law_is_half fd) : FnG P w K mg base 1 f__law_is_half fd ["_law_value"] (spI (GG gc) m__law_is_half) :=
  fn_ok (fun _ _ _ => True.intro) F sc__law_is_half fun cdv A outer s H E p cn => show SB (GG gc) p _ _ _ (b__law_is_half p) from
    (sb_cons (ss_if (st_w (sw_or (st_not (st_val (se_isiT q_tup T.n_isinstance T.n_tuple (se_var 0)))) (sw_or1 (st_not (st_chain i_le i_le se_int (se_b c_len T.n_len (sa_cons (se_var 0) sa_nil)) se_int))))) (sb_one (ss_ret se_bl)) sb_nil)
    (sb_cons (ss_for cn (si_range1 T.n_range (se_b c_len T.n_len (sa_cons (se_var 0) sa_nil))) (sg_nm 1 cn.nd) (sb_cons (ss_set 2 (se_ix cn.u1 (se_var 0) (se_var 1)) cn.nd)
    (sb_one (ss_if (st_cmp i_isN (se_var 2) se_non) (sb_cons (ss_if (st_w (sw_or (st_not (st_val (se_isiT q_int T.n_isinstance T.n_int (se_var 2)))) (sw_or (st_val (se_isiT q_bool T.n_isinstance T.n_bool (se_var 2))) (sw_or1 (st_not (st_chain i_le i_ltB se_int (se_var 2) (se_b c_len T.n_len (sa_cons (se_var 0) sa_nil)))))))) (sb_one (ss_ret se_bl)) sb_nil)
    (sb_cons (ss_if (st_w (sw_or (st_cmp (i_eq cn.u64) (se_var 2) (se_var 1)) (sw_or1 (st_cmp (i_ne cn.u64) (se_ix cn.u1 (se_var 0) (se_var 2)) (se_var 1))))) (sb_one (ss_ret se_bl)) sb_nil)
    (sb_cons (ss_set 3 (se_sl (se_var 0) (so_so (se_bin i_add (se_b (c_min2 cn.calm) T.n_min (sa_cons (se_var 1) (sa_cons (se_var 2) sa_nil))) se_int)) (so_so (se_b (c_max2 cn.calm) T.n_max (sa_cons (se_var 1) (sa_cons (se_var 2) sa_nil))))) cn.nd)
    (sb_cons (ss_if (st_cmp (i_inA cn.u65) se_non (se_var 3)) (sb_one (ss_ret se_bl)) sb_nil)
    (sb_cons (ss_asg (se_tup (sa_cons (se_b (c_min2 cn.calm) T.n_min (sa_cons (se_var 1) (sa_cons (se_var 2) sa_nil))) (sa_cons (se_b (c_max2 cn.calm) T.n_max (sa_cons (se_var 1) (sa_cons (se_var 2) sa_nil))) sa_nil))) (sg_tup cn.calm (sgs_cons (sg_nm 4 cn.nd) (sgs_cons (sg_nm 5 cn.nd) sgs_nil))))
    (sb_one (ss_if (st_cmp (i_ne cn.u64) (se_lc (own := [("_law_end", 6)]) (ct := (CTg.nm 6)) cn (si_seq (se_var 3)) (blk_ok (by rfl)) rfl (by decide) (fun _ _ _ _ _ => ctg_1 cn.calm cn.nd) (fun _ _ _ _ _ cn => (sts_one (st_w (sw_and (st_val (se_isiT q_int T.n_isinstance T.n_int (se_var 6))) (sw_and1 (st_not (st_chain i_ltB i_ltB (se_var 4) (se_var 6) (se_var 5)))))))) (fun _ _ _ _ _ cn => (se_var 6))) (se_lst sa_nil)) (sb_one (ss_ret se_bl)) sb_nil))))))) sb_nil))))
    (sb_one (ss_ret se_bl))))
theorem sc__law_take : FnScope ["_law_pool_here", "_law_count", "_law_result"] ["_law_pool_here", "_law_count"] (defScope s__law_take) := ⟨rfl, rfl, rfl, by decide +kernel, rfl, by decide +kernel, by decide +kernel⟩
theorem d__law_take {fd : FuncData} (T : TT mg T_MAX_COLUMNS) (M : MM mg f__law_is_half f__law_take f__law_modified f__law_pool f__law_random_half f_is_integer f_is_columns f_is_planar f_is_half f_law) (Z : CF mg K gc f__law_is_half f__law_take f__law_modified f__law_pool f__law_random_half f_is_integer f_is_columns f_is_planar f_is_half f_law) (F : Fun K "_law_take" "_law_take" s__law_take f__law_take fd) : FnG P w K mg base 1 f__law_take fd ["_law_pool_here", "_law_count"] (spI (GG gc) m__law_take) :=
  fn_ok (fun _ _ _ => True.intro) F sc__law_take fun cdv A outer s H E p cn => show SB (GG gc) p _ _ _ (b__law_take p) from
    (sb_cons (ss_if (st_cmp i_gt (se_ix cn.u1 (se_var 0) se_int) se_int) (sb_cons (ss_set 2 (se_bin i_mod (se_ix cn.u1 (se_var 0) se_int) (se_var 1)) cn.nd)
    (sb_cons (ss_asg (se_bin i_fdiv (se_ix cn.u1 (se_var 0) se_int) (se_var 1)) (sg_sub (s_setx cn.u1) (se_var 0) se_int))
    (sb_one (ss_ret (se_var 2))))) sb_nil)
    (sb_cons (ss_asg (se_bin i_mod (se_bin i_add (se_bin i_mul (se_ix cn.u1 (se_var 0) se_int) se_int) se_int) se_int) (sg_sub (s_setx cn.u1) (se_var 0) se_int))
    (sb_one (ss_ret (se_bin i_mod (se_bin i_fdiv (se_bin i_mod (se_bin i_mul (se_ix cn.u1 (se_var 0) se_int) (se_ix cn.u1 (se_var 0) se_int)) se_int) se_int) (se_var 1))))))
theorem sc__law_modified : FnScope ["_law_pool_here", "_law_half", "_law_pos", "_law_second", "_law_kind", "_law_odd", "_law_result", "_law_pairs", "_law_first", "_law_last", "_law_one", "_law_other", "_law_column", "_law_end"] ["_law_pool_here", "_law_half"] (defScope s__law_modified) := ⟨rfl, rfl, rfl, by decide +kernel, rfl, by decide +kernel, by decide +kernel⟩
theorem d__law_modified {fd : FuncData} (T : TT mg T_MAX_COLUMNS) (M : MM mg f__law_is_half f__law_take f__law_modified f__law_pool f__law_random_half f_is_integer f_is_columns f_is_planar f_is_half f_law) (Z : CF mg K gc f__law_is_half f__law_take f__law_modified f__law_pool f__law_random_half f_is_integer f_is_columns f_is_planar f_is_half f_law) (F : Fun K "_law_modified" "_law_modified" s__law_modified f__law_modified fd) (c__law_take : FC (GG gc) P w K mg base 1 f__law_take m__law_take []) : FnG P w K mg base 2 f__law_modified fd ["_law_pool_here", "_law_half"] (spI (GG gc) m__law_modified) :=
  fn_ok (fun _ _ _ => True.intro) F sc__law_modified fun cdv A outer s H E p cn => show SB (GG gc) p _ _ _ (b__law_modified p) from
    (sb_cons (ss_par2 2 3 cn.calm cn.nd (sa_cons (se_call c__law_take cn M.m__law_take (sa_cons (se_var 0) (sa_cons (se_b c_len T.n_len (sa_cons (se_var 1) sa_nil)) sa_nil))) (sa_cons (se_call c__law_take cn M.m__law_take (sa_cons (se_var 0) (sa_cons (se_b c_len T.n_len (sa_cons (se_var 1) sa_nil)) sa_nil))) sa_nil)))
    (sb_cons (ss_set 4 (se_call c__law_take cn M.m__law_take (sa_cons (se_var 0) (sa_cons se_int sa_nil))) cn.nd)
    (sb_cons (ss_if (st_cmp (i_eq cn.u64) (se_var 4) se_int) (sb_cons (ss_set 5 (se_ix cn.u1 (se_lst (sa_cons (se_b c_len T.n_len (sa_cons (se_var 1) sa_nil)) (sa_cons (se_un i_neg se_int) (sa_cons se_bl (sa_cons se_bl (sa_cons se_str (sa_cons (se_tup (sa_cons se_int sa_nil)) (sa_cons (se_bin i_pow se_int se_int) sa_nil)))))))) (se_call c__law_take cn M.m__law_take (sa_cons (se_var 0) (sa_cons se_int sa_nil)))) cn.nd)
    (sb_one (ss_ret (se_bin i_add (se_bin i_add (se_sl (se_var 1) so_no (so_so (se_var 2))) (se_tup (sa_cons (se_var 5) sa_nil))) (se_sl (se_var 1) (so_so (se_bin i_add (se_var 2) se_int)) so_no))))) sb_nil)
    (sb_cons (ss_if (st_cmp (i_eq cn.u64) (se_var 4) se_int) (sb_one (ss_ret (se_bin i_add (se_bin i_add (se_sl (se_var 1) so_no (so_so (se_var 2))) (se_tup (sa_cons se_non sa_nil))) (se_sl (se_var 1) (so_so (se_bin i_add (se_var 2) se_int)) so_no)))) sb_nil)
    (sb_cons (ss_if (st_cmp (i_eq cn.u64) (se_var 4) se_int) (sb_one (ss_ret (se_bin i_add (se_bin i_add (se_sl (se_var 1) so_no (so_so (se_var 2))) (se_tup (sa_cons (se_var 3) sa_nil))) (se_sl (se_var 1) (so_so (se_bin i_add (se_var 2) se_int)) so_no)))) sb_nil)
    (sb_cons (ss_if (st_cmp (i_eq cn.u64) (se_var 4) se_int) (sb_one (ss_ret (se_bin i_add (se_sl (se_var 1) so_no (so_so (se_var 2))) (se_sl (se_var 1) (so_so (se_bin i_add (se_var 2) se_int)) so_no)))) sb_nil)
    (sb_cons (ss_if (st_cmp (i_eq cn.u64) (se_var 4) se_int) (sb_one (ss_ret (se_bin i_add (se_bin i_add (se_sl (se_var 1) so_no (so_so (se_var 2))) (se_tup (sa_cons (se_ix cn.u1 (se_lst (sa_cons se_non (sa_cons (se_var 2) sa_nil))) (se_call c__law_take cn M.m__law_take (sa_cons (se_var 0) (sa_cons se_int sa_nil)))) sa_nil))) (se_sl (se_var 1) (so_so (se_var 2)) so_no)))) sb_nil)
    (sb_cons (ss_set 6 (se_bt c_list T.n_list (sa_cons (se_var 1) sa_nil)) cn.nd)
    (sb_cons (ss_if (st_cmp (i_eq cn.u64) (se_var 4) se_int) (sb_cons (ss_asg (se_tup (sa_cons (se_var 3) (sa_cons (se_var 2) sa_nil))) (sg_tup cn.calm (sgs_cons (sg_sub (s_setxB cn.u1) (se_var 6) (se_var 2)) (sgs_cons (sg_sub (s_setxB cn.u1) (se_var 6) (se_var 3)) sgs_nil))))
    (sb_one (ss_ret (se_bt c_tuple T.n_tuple (sa_cons (se_var 6) sa_nil))))) sb_nil)
    (sb_cons (ss_if (st_cmp (i_eq cn.u64) (se_var 4) se_int) (sb_cons (ss_asg (se_tup (sa_cons (se_ix cn.u1 (se_var 1) (se_var 3)) (sa_cons (se_ix cn.u1 (se_var 1) (se_var 2)) sa_nil))) (sg_tup cn.calm (sgs_cons (sg_sub (s_setxB cn.u1) (se_var 6) (se_var 2)) (sgs_cons (sg_sub (s_setxB cn.u1) (se_var 6) (se_var 3)) sgs_nil))))
    (sb_one (ss_ret (se_bt c_tuple T.n_tuple (sa_cons (se_var 6) sa_nil))))) sb_nil)
    (sb_cons (ss_setLc 7 (own := [("_law_column", 12), ("_law_end", 13)]) (ct := (CTg.pr 12 13)) cn (si_enum T.n_enumerate (se_var 1)) (blk_ok (by rfl)) rfl (by decide) (fun _ _ _ _ _ => ctg_2 cn.calm cn.nd) (fun _ _ _ _ _ cn => (sts_one (st_w (sw_and (st_val (se_isiT q_int T.n_isinstance T.n_int (se_var 13))) (sw_and1 (st_chain i_ltB i_ltB (se_var 12) (se_var 13) (se_b c_len T.n_len (sa_cons (se_var 1) sa_nil)))))))) (fun _ _ _ _ _ cn => (se_tup (sa_cons (se_var 12) (sa_cons (se_var 13) sa_nil)))) rfl)
    (sb_cons (ss_if (st_cmp (i_eq cn.u64) (se_var 7) (se_lst sa_nil)) (sb_one (ss_ret (se_bin i_add (se_var 1) (se_tup (sa_cons se_non sa_nil))))) sb_nil)
    (sb_cons (ss_par2 8 9 cn.calm cn.nd (sa_cons (se_ix cn.u1 (se_var 7) (se_call c__law_take cn M.m__law_take (sa_cons (se_var 0) (sa_cons (se_b c_len T.n_len (sa_cons (se_var 7) sa_nil)) sa_nil)))) (sa_cons (se_ix cn.u1 (se_var 7) (se_call c__law_take cn M.m__law_take (sa_cons (se_var 0) (sa_cons (se_b c_len T.n_len (sa_cons (se_var 7) sa_nil)) sa_nil)))) sa_nil)))
    (sb_cons (ss_for cn (si_seq (se_lst (sa_cons (se_tup (sa_cons (se_ix cn.u1 (se_var 8) se_int) (sa_cons (se_ix cn.u1 (se_var 9) se_int) sa_nil))) (sa_cons (se_tup (sa_cons (se_ix cn.u1 (se_var 8) se_int) (sa_cons (se_ix cn.u1 (se_var 9) se_int) sa_nil))) sa_nil)))) (sg_tup cn.calm (sgs_cons (sg_nm 10 cn.nd) (sgs_cons (sg_nm 11 cn.nd) sgs_nil))) (sb_one (ss_asg (se_tup (sa_cons (se_var 11) (sa_cons (se_var 10) sa_nil))) (sg_tup cn.calm (sgs_cons (sg_sub (s_setxB cn.u1) (se_var 6) (se_var 10)) (sgs_cons (sg_sub (s_setxB cn.u1) (se_var 6) (se_var 11)) sgs_nil))))))
    (sb_one (ss_ret (se_bt c_tuple T.n_tuple (sa_cons (se_var 6) sa_nil))))))))))))))))))
theorem sc__law_pool : FnScope ["_law_script", "_law_k", "_law_cell", "_law_mixed"] ["_law_script", "_law_k"] (defScope s__law_pool) := ⟨rfl, rfl, rfl, by decide +kernel, rfl, by decide +kernel, by decide +kernel⟩
theorem d__law_pool {fd : FuncData} (T : TT mg T_MAX_COLUMNS) (M : MM mg f__law_is_half f__law_take f__law_modified f__law_pool f__law_random_half f_is_integer f_is_columns f_is_planar f_is_half f_law) (Z : CF mg K gc f__law_is_half f__law_take f__law_modified f__law_pool f__law_random_half f_is_integer f_is_columns f_is_planar f_is_half f_law) (F : Fun K "_law_pool" "_law_pool" s__law_pool f__law_pool fd) : FnG P w K mg base 1 f__law_pool fd ["_law_script", "_law_k"] (spI (GG gc) m__law_pool) :=
  fn_ok (fun _ _ _ => True.intro) F sc__law_pool fun cdv A outer s H E p cn => show SB (GG gc) p _ _ _ (b__law_pool p) from
    (sb_cons (ss_set 2 se_int cn.nd)
    (sb_cons (ss_if (st_cmp (i_lt cn.u0) (se_var 1) (se_b c_len T.n_len (sa_cons (se_var 0) sa_nil))) (sb_one (ss_set 2 (se_b c_abs T.n_abs (sa_cons (se_ix cn.u1 (se_var 0) (se_var 1)) sa_nil)) cn.nd)) sb_nil)
    (sb_cons (ss_set 3 (se_bin i_mod (se_bin i_mul (se_bin i_add (se_bin i_add (se_bin i_add (se_bin i_mod (se_var 2) se_int) (se_bin i_mul (se_bin i_mul se_int (se_var 1)) (se_var 1))) (se_bin i_mul se_int (se_var 1))) se_int) se_int) se_int) cn.nd)
    (sb_one (ss_ret (se_lst (sa_cons (se_bin i_mul (se_var 2) (se_bt c_int T.n_int (sa_cons (se_cmp i_ge (se_var 2) (se_bin i_pow se_int se_int)) sa_nil))) (sa_cons (se_bin i_mod (se_bin i_mul (se_var 3) (se_var 3)) se_int) sa_nil))))))))
theorem sc__law_random_half : FnScope ["_law_pool_here", "_law_width", "_law_result", "_law_pending", "_law_column", "_law_must_close", "_law_other"] ["_law_pool_here", "_law_width"] (defScope s__law_random_half) := ⟨rfl, rfl, rfl, by decide +kernel, rfl, by decide +kernel, by decide +kernel⟩
theorem d__law_random_half {fd : FuncData} (T : TT mg T_MAX_COLUMNS) (M : MM mg f__law_is_half f__law_take f__law_modified f__law_pool f__law_random_half f_is_integer f_is_columns f_is_planar f_is_half f_law) (Z : CF mg K gc f__law_is_half f__law_take f__law_modified f__law_pool f__law_random_half f_is_integer f_is_columns f_is_planar f_is_half f_law) (F : Fun K "_law_random_half" "_law_random_half" s__law_random_half f__law_random_half fd) (c__law_take : FC (GG gc) P w K mg base 1 f__law_take m__law_take []) : FnG P w K mg base 2 f__law_random_half fd ["_law_pool_here", "_law_width"] (spI (GG gc) m__law_random_half) :=
  fn_ok (fun _ _ _ => True.intro) F sc__law_random_half fun cdv A outer s H E p cn => show SB (GG gc) p _ _ _ (b__law_random_half p) from
    (sb_cons (ss_par2 2 3 cn.calm cn.nd (sa_cons (se_bin i_mul (se_lst (sa_cons se_non sa_nil)) (se_var 1)) (sa_cons (se_lst sa_nil) sa_nil)))
    (sb_cons (ss_for cn (si_range1 T.n_range (se_var 1)) (sg_nm 4 cn.nd) (sb_cons (ss_set 5 (se_cmp i_ge (se_b c_len T.n_len (sa_cons (se_var 3) sa_nil)) (se_bin i_sub (se_bin i_sub (se_var 1) (se_var 4)) se_int)) cn.nd)
    (sb_one (ss_if (st_w (sw_and (st_cmp (i_ne cn.u64) (se_var 3) (se_lst sa_nil)) (sw_and1 (st_w (sw_or (st_val (se_var 5)) (sw_or1 (st_cmp (i_eq cn.u64) (se_call c__law_take cn M.m__law_take (sa_cons (se_var 0) (sa_cons se_int sa_nil))) se_int))))))) (sb_cons (ss_set 6 (se_bm0 PySem.F.plainAttrs_list PySem.F.slot_list_pop PySem.F.type_list_pop ty_lst m_pop (se_var 3)) cn.nd)
    (sb_one (ss_asg (se_tup (sa_cons (se_var 6) (sa_cons (se_var 4) sa_nil))) (sg_tup cn.calm (sgs_cons (sg_sub (s_setx cn.u1) (se_var 2) (se_var 4)) (sgs_cons (sg_sub (s_setx cn.u1) (se_var 2) (se_var 6)) sgs_nil)))))) (sb_one (ss_if (st_w (sw_and (st_cmp (i_lt cn.u0) (se_b c_len T.n_len (sa_cons (se_var 3) sa_nil)) (se_bin i_sub (se_bin i_sub (se_var 1) (se_var 4)) se_int)) (sw_and1 (st_w (sw_or (st_cmp (i_ne cn.u64) (se_var 3) (se_lst sa_nil)) (sw_or1 (st_cmp i_gt (se_call c__law_take cn M.m__law_take (sa_cons (se_var 0) (sa_cons se_int sa_nil))) se_int))))))) (sb_one (ss_ex (se_bm PySem.F.plainAttrs_list PySem.F.slot_list_append PySem.F.type_list_append ty_lst m_append (se_var 3) (sa_cons (se_var 4) sa_nil)))) sb_nil))))))
    (sb_one (ss_ret (se_bt c_tuple T.n_tuple (sa_cons (se_var 2) sa_nil))))))
theorem sc_is_integer : FnScope ["value", "minimum"] ["value", "minimum"] (defScope s_is_integer) := ⟨rfl, rfl, rfl, by decide +kernel, rfl, by decide +kernel, by decide +kernel⟩
theorem d_is_integer {fd : FuncData} (T : TT mg T_MAX_COLUMNS) (M : MM mg f__law_is_half f__law_take f__law_modified f__law_pool f__law_random_half f_is_integer f_is_columns f_is_planar f_is_half f_law) (Z : CF mg K gc f__law_is_half f__law_take f__law_modified f__law_pool f__law_random_half f_is_integer f_is_columns f_is_planar f_is_half f_law) (F : FunD K "is_integer" "is_integer" (defArgs s_is_integer) (defBody s_is_integer) (defScope s_is_integer) [.int 0] [] f_is_integer fd) : FnG P w K mg base 1 f_is_integer fd ["value", "minimum"] (spI (GG gc) m_is_integer) :=
  fn_okD (fun _ _ _ => True.intro) F sc_is_integer fun cdv A outer s H E p cn => show SB (GG gc) p _ _ _ (b_is_integer p) from
    (sb_one (ss_ret (se_and (se_isiT q_int T.n_isinstance T.n_int (se_var 0)) (se_and (se_not (se_isiT q_bool T.n_isinstance T.n_bool (se_var 0))) (se_one (se_cmp i_ge (se_var 0) (se_var 1)))))))
theorem sc_is_columns : FnScope ["value"] ["value"] (defScope s_is_columns) := ⟨rfl, rfl, rfl, by decide +kernel, rfl, by decide +kernel, by decide +kernel⟩
theorem d_is_columns {fd : FuncData} (T : TT mg T_MAX_COLUMNS) (M : MM mg f__law_is_half f__law_take f__law_modified f__law_pool f__law_random_half f_is_integer f_is_columns f_is_planar f_is_half f_law) (Z : CF mg K gc f__law_is_half f__law_take f__law_modified f__law_pool f__law_random_half f_is_integer f_is_columns f_is_planar f_is_half f_law) (F : Fun K "is_columns" "is_columns" s_is_columns f_is_columns fd) (c_is_integer_0 : FC (GG gc) P w K mg base 1 f_is_integer m_is_integer []) : FnG P w K mg base 2 f_is_columns fd ["value"] (spI (GG gc) m_is_columns) :=
  fn_ok (fun _ _ _ => True.intro) F sc_is_columns fun cdv A outer s H E p cn => show SB (GG gc) p _ _ _ (b_is_columns p) from
    (sb_one (ss_ret (se_and (se_call c_is_integer_0 cn M.m_is_integer (sa_cons (se_var 0) (sa_cons se_int sa_nil))) (se_one (se_cmp i_le (se_var 0) (se_gint T.c_MAX_COLUMNS))))))
theorem sc_is_planar : FnScope ["half", "pending", "column", "other"] ["half"] (defScope s_is_planar) := ⟨rfl, rfl, rfl, by decide +kernel, rfl, by decide +kernel, by decide +kernel⟩
theorem d_is_planar {fd : FuncData} (T : TT mg T_MAX_COLUMNS) (M : MM mg f__law_is_half f__law_take f__law_modified f__law_pool f__law_random_half f_is_integer f_is_columns f_is_planar f_is_half f_law) (Z : CF mg K gc f__law_is_half f__law_take f__law_modified f__law_pool f__law_random_half f_is_integer f_is_columns f_is_planar f_is_half f_law) (F : Fun K "is_planar" "is_planar" s_is_planar f_is_planar fd) : FnG P w K mg base 1 f_is_planar fd ["half"] (spI (GG gc) m_is_planar) :=
  fn_ok (fun _ _ _ => True.intro) F sc_is_planar fun cdv A outer s H E p cn => show SB (GG gc) p _ _ _ (b_is_planar p) from
    (sb_cons (ss_set 1 (se_lst sa_nil) cn.nd)
    (sb_cons (ss_for cn (si_enum T.n_enumerate (se_var 0)) (sg_tup cn.calm (sgs_cons (sg_nm 2 cn.nd) (sgs_cons (sg_nm 3 cn.nd) sgs_nil))) (sb_one (ss_if (st_cmp i_is (se_var 3) se_non) (sb_one (ss_if (st_cmp (i_ne cn.u64) (se_var 1) (se_lst sa_nil)) (sb_one (ss_ret se_bl)) sb_nil)) (sb_one (ss_if (st_cmp i_gt (se_var 3) (se_var 2)) (sb_one (ss_ex (se_bm PySem.F.plainAttrs_list PySem.F.slot_list_append PySem.F.type_list_append ty_lst m_append (se_var 1) (sa_cons (se_var 2) sa_nil)))) (sb_one (ss_if (st_cmp (i_ne cn.u64) (se_bm0 PySem.F.plainAttrs_list PySem.F.slot_list_pop PySem.F.type_list_pop ty_lst m_pop (se_var 1)) (se_var 3)) (sb_one (ss_ret se_bl)) sb_nil)))))))
    (sb_one (ss_ret se_bl))))
theorem sc_is_half : FnScope ["value", "other", "column"] ["value"] (defScope s_is_half) := ⟨rfl, rfl, rfl, by decide +kernel, rfl, by decide +kernel, by decide +kernel⟩
theorem d_is_half {fd : FuncData} (T : TT mg T_MAX_COLUMNS) (M : MM mg f__law_is_half f__law_take f__law_modified f__law_pool f__law_random_half f_is_integer f_is_columns f_is_planar f_is_half f_law) (Z : CF mg K gc f__law_is_half f__law_take f__law_modified f__law_pool f__law_random_half f_is_integer f_is_columns f_is_planar f_is_half f_law) (F : Fun K "is_half" "is_half" s_is_half f_is_half fd) (c_is_columns : FC (GG gc) P w K mg base 2 f_is_columns m_is_columns []) (c_is_integer_1 : FC (GG gc) P w K mg base 2 f_is_integer m_is_integer [.int 0]) (c_is_planar : FC (GG gc) P w K mg base 2 f_is_planar m_is_planar []) : FnG P w K mg base 3 f_is_half fd ["value"] (spI (GG gc) m_is_half) :=
  fn_ok (fun _ _ _ => True.intro) F sc_is_half fun cdv A outer s H E p cn => show SB (GG gc) p _ _ _ (b_is_half p) from
    (sb_cons (ss_if (st_w (sw_or (st_not (st_val (se_isiT q_tup T.n_isinstance T.n_tuple (se_var 0)))) (sw_or1 (st_not (st_val (se_call c_is_columns cn M.m_is_columns (sa_cons (se_b c_len T.n_len (sa_cons (se_var 0) sa_nil)) sa_nil))))))) (sb_one (ss_ret se_bl)) sb_nil)
    (sb_cons (ss_if (st_not (st_val (se_b (c_all cn.calm) T.n_all (sa_cons (se_lc (own := [("other", 1)]) (ct := (CTg.nm 1)) cn (si_seq (se_var 0)) (blk_ok (by rfl)) rfl (by decide) (fun _ _ _ _ _ => ctg_1 cn.calm cn.nd) (fun _ _ _ _ _ cn => sts_nil) (fun _ _ _ _ _ cn => (se_or (se_cmp i_is (se_var 1) se_non) (se_one (se_and (se_call c_is_integer_1 cn M.m_is_integer (sa_cons (se_var 1) sa_nil)) (se_one (se_cmp (i_lt cn.u0) (se_var 1) (se_b c_len T.n_len (sa_cons (se_var 0) sa_nil))))))))) sa_nil)))) (sb_one (ss_ret se_bl)) sb_nil)
    (sb_cons (ss_if (st_not (st_val (se_b (c_all cn.calm) T.n_all (sa_cons (se_lc (own := [("column", 2), ("other", 1)]) (ct := (CTg.pr 2 1)) cn (si_enum T.n_enumerate (se_var 0)) (blk_ok (by rfl)) rfl (by decide) (fun _ _ _ _ _ => ctg_2 cn.calm cn.nd) (fun _ _ _ _ _ cn => sts_nil) (fun _ _ _ _ _ cn => (se_or (se_cmp i_is (se_var 1) se_non) (se_one (se_chain (i_eq cn.u64) (i_ne cn.u64) (se_ix cn.u1 (se_var 0) (se_var 1)) (se_var 2) (se_var 1)))))) sa_nil)))) (sb_one (ss_ret se_bl)) sb_nil)
    (sb_one (ss_ret (se_call c_is_planar cn M.m_is_planar (sa_cons (se_var 0) sa_nil)))))))
theorem sc_law : FnScope ["_law_script", "_law_bad", "_law_k", "_law_pool_here", "_law_half", "_law_turn", "_law_odd", "_law_snapshot", "_law_value"] ["_law_script"] (defScope s_law) := ⟨rfl, rfl, rfl, by decide +kernel, rfl, by decide +kernel, by decide +kernel⟩
theorem d_law {fd : FuncData} (T : TT mg T_MAX_COLUMNS) (M : MM mg f__law_is_half f__law_take f__law_modified f__law_pool f__law_random_half f_is_integer f_is_columns f_is_planar f_is_half f_law) (Z : CF mg K gc f__law_is_half f__law_take f__law_modified f__law_pool f__law_random_half f_is_integer f_is_columns f_is_planar f_is_half f_law) (F : Fun K "law" "law" s_law f_law fd) (c__law_is_half : FC (GG gc) P w K mg base 3 f__law_is_half m__law_is_half []) (c__law_modified : FC (GG gc) P w K mg base 3 f__law_modified m__law_modified []) (c__law_pool : FC (GG gc) P w K mg base 3 f__law_pool m__law_pool []) (c__law_random_half : FC (GG gc) P w K mg base 3 f__law_random_half m__law_random_half []) (c__law_take : FC (GG gc) P w K mg base 3 f__law_take m__law_take []) (c_is_half : FC (GG gc) P w K mg base 3 f_is_half m_is_half []) : FnG P w K mg base 4 f_law fd ["_law_script"] (spI (GG gc) m_law) :=
  fn_ok (fun _ _ _ => True.intro) F sc_law fun cdv A outer s H E p cn => show SB (GG gc) p _ _ _ (b_law p) from
    (sb_cons (ss_if (st_cmp (i_ne cn.u64) (se_lc (own := [("_law_value", 8)]) (ct := (CTg.nm 8)) cn (si_seq (se_lst (sa_cons (se_tup (sa_cons (se_lst sa_nil) sa_nil)) (sa_cons (se_tup (sa_cons se_dct sa_nil)) (sa_cons (se_tup (sa_cons se_non (sa_cons (se_lst (sa_cons se_int sa_nil)) sa_nil))) (sa_cons (se_tup (sa_cons (se_tup sa_nil) sa_nil)) (sa_cons (se_tup (sa_cons (se_lst sa_nil) (sa_cons se_int sa_nil))) sa_nil))))))) (blk_ok (by rfl)) rfl (by decide) (fun _ _ _ _ _ => ctg_1 cn.calm cn.nd) (fun _ _ _ _ _ cn => (sts_one (st_cmp i_isN (se_call c_is_half cn M.m_is_half (sa_cons (se_var 8) sa_nil)) se_bl))) (fun _ _ _ _ _ cn => (se_var 8))) (se_lst sa_nil)) (sb_one (ss_ret se_bl)) sb_nil)
    (sb_cons (ss_for cn (si_seq (se_lst (sa_cons se_non (sa_cons se_int (sa_cons se_str (sa_cons (se_tup sa_nil) (sa_cons (se_lst sa_nil) (sa_cons se_dct (sa_cons se_bl (sa_cons (se_lst (sa_cons se_non sa_nil)) (sa_cons (se_bin i_mul1 (se_tup (sa_cons se_non sa_nil)) se_int) (sa_cons (se_tup (sa_cons (se_tup (sa_cons se_int sa_nil)) sa_nil)) (sa_cons (se_tup (sa_cons se_int sa_nil)) (sa_cons (se_bin i_mul1 (se_tup (sa_cons se_int (sa_cons se_int (sa_cons se_non (sa_cons se_non sa_nil))))) se_int) sa_nil)))))))))))))) (sg_nm 1 cn.nd) (sb_one (ss_if (st_cmp i_isN (se_call c_is_half cn M.m_is_half (sa_cons (se_var 1) sa_nil)) se_bl) (sb_one (ss_ret se_bl)) sb_nil)))
    (sb_cons (ss_if (st_w (sw_or (st_cmp i_isN (se_call c_is_half cn M.m_is_half (sa_cons (se_tup (sa_cons se_non sa_nil)) sa_nil)) se_bl) (sw_or (st_cmp i_isN (se_call c_is_half cn M.m_is_half (sa_cons (se_bin i_mul1 (se_tup (sa_cons se_non sa_nil)) se_int) sa_nil)) se_bl) (sw_or1 (st_cmp i_isN (se_call c_is_half cn M.m_is_half (sa_cons (se_bin i_mul1 (se_tup (sa_cons se_int (sa_cons se_int sa_nil))) se_int) sa_nil)) se_bl))))) (sb_one (ss_ret se_bl)) sb_nil)
    (sb_cons (ss_for cn (si_range1 T.n_range (se_b (c_max2 cn.calm) T.n_max (sa_cons se_int (sa_cons (se_b (c_min2 cn.calm) T.n_min (sa_cons se_int (sa_cons (se_b c_len T.n_len (sa_cons (se_var 0) sa_nil)) sa_nil))) sa_nil)))) (sg_nm 2 cn.nd) (sb_cons (ss_set 3 (se_call c__law_pool cn M.m__law_pool (sa_cons (se_var 0) (sa_cons (se_var 2) sa_nil))) cn.nd)
    (sb_cons (ss_set 4 (se_call c__law_random_half cn M.m__law_random_half (sa_cons (se_var 3) (sa_cons (se_bin i_add se_int (se_call c__law_take cn M.m__law_take (sa_cons (se_var 3) (sa_cons se_int sa_nil)))) sa_nil))) cn.nd)
    (sb_cons (ss_if (st_w (sw_or (st_cmp i_isN (se_call c_is_half cn M.m_is_half (sa_cons (se_var 4) sa_nil)) se_bl) (sw_or1 (st_cmp i_isN (se_call c_is_half cn M.m_is_half (sa_cons (se_bt c_list T.n_list (sa_cons (se_var 4) sa_nil)) sa_nil)) se_bl)))) (sb_one (ss_ret se_bl)) sb_nil)
    (sb_one (ss_for cn (si_range1 T.n_range se_int) (sg_nm 5 cn.nd) (sb_cons (ss_set 6 (se_call c__law_modified cn M.m__law_modified (sa_cons (se_var 3) (sa_cons (se_var 4) sa_nil))) cn.nd)
    (sb_cons (ss_set 6 (se_if (st_w (sw_and (st_cmp (i_eq cn.u64) (se_bin i_mod (se_var 5) se_int) se_int) (sw_and1 (st_cmp (i_ne cn.u64) (se_var 6) (se_tup sa_nil))))) (se_call c__law_modified cn M.m__law_modified (sa_cons (se_var 3) (sa_cons (se_var 6) sa_nil))) (se_var 6)) cn.nd)
    (sb_cons (ss_set 7 (se_b (c_repr cn.gd cn.u64) T.n_repr (sa_cons (se_var 6) sa_nil)) cn.nd)
    (sb_one (ss_if (st_w (sw_or (st_cmp (i_ne cn.u64) (se_b (c_repr cn.gd cn.u64) T.n_repr (sa_cons (se_call c_is_half cn M.m_is_half (sa_cons (se_var 6) sa_nil)) sa_nil)) (se_b (c_repr cn.gd cn.u64) T.n_repr (sa_cons (se_call c__law_is_half cn M.m__law_is_half (sa_cons (se_var 6) sa_nil)) sa_nil))) (sw_or1 (st_cmp (i_ne cn.u64) (se_b (c_repr cn.gd cn.u64) T.n_repr (sa_cons (se_var 6) sa_nil)) (se_var 7))))) (sb_one (ss_ret se_bl)) sb_nil)))))))))))
    (sb_one (ss_ret se_bl))))))
end
theorem all_mk {P : Program} {w : World} {K : PySem.W.Frag} {h : Heap} {mg : Str → Option Value} {fa : Addr} {T_MAX_COLUMNS : Tok} {f__law_is_half : Addr} {f__law_take : Addr} {f__law_modified : Addr} {f__law_pool : Addr} {f__law_random_half : Addr} {f_is_integer : Addr} {f_is_columns : Addr} {f_is_planar : Addr} {f_is_half : Addr} {f_law : Addr} (X : K.In h) (NG : h.Ns mainGlobals mg) (hfa : mg "law" = some (.ref fa))
    (n_abs : PySem.W.nsIn K mainGlobals "abs" = some none)
    (n_all : PySem.W.nsIn K mainGlobals "all" = some none)
    (n_bool : PySem.W.nsIn K mainGlobals "bool" = some none)
    (n_enumerate : PySem.W.nsIn K mainGlobals "enumerate" = some none)
    (n_int : PySem.W.nsIn K mainGlobals "int" = some none)
    (n_isinstance : PySem.W.nsIn K mainGlobals "isinstance" = some none)
    (n_len : PySem.W.nsIn K mainGlobals "len" = some none)
    (n_list : PySem.W.nsIn K mainGlobals "list" = some none)
    (n_max : PySem.W.nsIn K mainGlobals "max" = some none)
    (n_min : PySem.W.nsIn K mainGlobals "min" = some none)
    (n_range : PySem.W.nsIn K mainGlobals "range" = some none)
    (n_repr : PySem.W.nsIn K mainGlobals "repr" = some none)
    (n_tuple : PySem.W.nsIn K mainGlobals "tuple" = some none)
    (c_MAX_COLUMNS : PySem.W.nsIn K mainGlobals "MAX_COLUMNS" = some (some (.int 16 T_MAX_COLUMNS)))
    (a__law_is_half : PySem.W.nsIn K mainGlobals "_law_is_half" = some (some (.ref f__law_is_half)))
    (k__law_is_half : KD K "_law_is_half" "_law_is_half" s__law_is_half f__law_is_half)
    (a__law_take : PySem.W.nsIn K mainGlobals "_law_take" = some (some (.ref f__law_take)))
    (k__law_take : KD K "_law_take" "_law_take" s__law_take f__law_take)
    (a__law_modified : PySem.W.nsIn K mainGlobals "_law_modified" = some (some (.ref f__law_modified)))
    (k__law_modified : KD K "_law_modified" "_law_modified" s__law_modified f__law_modified)
    (a__law_pool : PySem.W.nsIn K mainGlobals "_law_pool" = some (some (.ref f__law_pool)))
    (k__law_pool : KD K "_law_pool" "_law_pool" s__law_pool f__law_pool)
    (a__law_random_half : PySem.W.nsIn K mainGlobals "_law_random_half" = some (some (.ref f__law_random_half)))
    (k__law_random_half : KD K "_law_random_half" "_law_random_half" s__law_random_half f__law_random_half)
    (a_is_integer : PySem.W.nsIn K mainGlobals "is_integer" = some (some (.ref f_is_integer)))
    (k_is_integer : KDD K "is_integer" "is_integer" s_is_integer [.int 0] f_is_integer)
    (a_is_columns : PySem.W.nsIn K mainGlobals "is_columns" = some (some (.ref f_is_columns)))
    (k_is_columns : KD K "is_columns" "is_columns" s_is_columns f_is_columns)
    (a_is_planar : PySem.W.nsIn K mainGlobals "is_planar" = some (some (.ref f_is_planar)))
    (k_is_planar : KD K "is_planar" "is_planar" s_is_planar f_is_planar)
    (a_is_half : PySem.W.nsIn K mainGlobals "is_half" = some (some (.ref f_is_half)))
    (k_is_half : KD K "is_half" "is_half" s_is_half f_is_half)
    (a_law : PySem.W.nsIn K mainGlobals "law" = some (some (.ref f_law)))
    (k_law : KD K "law" "law" s_law f_law)
    : ∃ G, FLaw G P w K mg 4 fa "_law_script" m_law := by
  have e : f_law = fa := by
    have e := hfa.symm.trans (PySem.W.mg_of X NG a_law)
    cases e
    rfl
  subst e
  obtain ⟨gc, egc⟩ : ∃ gc, gc = gcOf [] := ⟨_, rfl⟩
  have T : TT mg T_MAX_COLUMNS := ⟨PySem.W.mg_none_of X NG n_abs, PySem.W.mg_none_of X NG n_all, PySem.W.mg_none_of X NG n_bool, PySem.W.mg_none_of X NG n_enumerate, PySem.W.mg_none_of X NG n_int, PySem.W.mg_none_of X NG n_isinstance, PySem.W.mg_none_of X NG n_len, PySem.W.mg_none_of X NG n_list, PySem.W.mg_none_of X NG n_max, PySem.W.mg_none_of X NG n_min, PySem.W.mg_none_of X NG n_range, PySem.W.mg_none_of X NG n_repr, PySem.W.mg_none_of X NG n_tuple, PySem.W.mg_of X NG c_MAX_COLUMNS⟩
  have M : MM mg f__law_is_half f__law_take f__law_modified f__law_pool f__law_random_half f_is_integer f_is_columns f_is_planar f_is_half f_law := ⟨PySem.W.mg_of X NG a__law_is_half, PySem.W.mg_of X NG a__law_take, PySem.W.mg_of X NG a__law_modified, PySem.W.mg_of X NG a__law_pool, PySem.W.mg_of X NG a__law_random_half, PySem.W.mg_of X NG a_is_integer, PySem.W.mg_of X NG a_is_columns, PySem.W.mg_of X NG a_is_planar, PySem.W.mg_of X NG a_is_half, PySem.W.mg_of X NG a_law⟩
  have Z : CF mg K gc f__law_is_half f__law_take f__law_modified f__law_pool f__law_random_half f_is_integer f_is_columns f_is_planar f_is_half f_law := ⟨⟩
  obtain ⟨fd__law_is_half, F__law_is_half⟩ := k__law_is_half
  obtain ⟨fd__law_take, F__law_take⟩ := k__law_take
  obtain ⟨fd__law_modified, F__law_modified⟩ := k__law_modified
  obtain ⟨fd__law_pool, F__law_pool⟩ := k__law_pool
  obtain ⟨fd__law_random_half, F__law_random_half⟩ := k__law_random_half
  obtain ⟨fd_is_integer, F_is_integer⟩ := k_is_integer
  obtain ⟨fd_is_columns, F_is_columns⟩ := k_is_columns
  obtain ⟨fd_is_planar, F_is_planar⟩ := k_is_planar
  obtain ⟨fd_is_half, F_is_half⟩ := k_is_half
  obtain ⟨fd_law, F_law⟩ := k_law
  have q__law_is_half : Binds K fd__law_is_half ["_law_value"] [] := F__law_is_half.binds fun _ _ _ _ _ _ us hl => match us, hl with | [_], _ => rfl
  have q__law_take : Binds K fd__law_take ["_law_pool_here", "_law_count"] [] := F__law_take.binds fun _ _ _ _ _ _ us hl => match us, hl with | [_, _], _ => rfl
  have q__law_modified : Binds K fd__law_modified ["_law_pool_here", "_law_half"] [] := F__law_modified.binds fun _ _ _ _ _ _ us hl => match us, hl with | [_, _], _ => rfl
  have q__law_pool : Binds K fd__law_pool ["_law_script", "_law_k"] [] := F__law_pool.binds fun _ _ _ _ _ _ us hl => match us, hl with | [_, _], _ => rfl
  have q__law_random_half : Binds K fd__law_random_half ["_law_pool_here", "_law_width"] [] := F__law_random_half.binds fun _ _ _ _ _ _ us hl => match us, hl with | [_, _], _ => rfl
  have q_is_columns : Binds K fd_is_columns ["value"] [] := F_is_columns.binds fun _ _ _ _ _ _ us hl => match us, hl with | [_], _ => rfl
  have q_is_planar : Binds K fd_is_planar ["half"] [] := F_is_planar.binds fun _ _ _ _ _ _ us hl => match us, hl with | [_], _ => rfl
  have q_is_half : Binds K fd_is_half ["value"] [] := F_is_half.binds fun _ _ _ _ _ _ us hl => match us, hl with | [_], _ => rfl
  have q_law : Binds K fd_law ["_law_script"] [] := F_law.binds fun _ _ _ _ _ _ us hl => match us, hl with | [_], _ => rfl
  refine ⟨GG gc, fd_law, ?_, fun base KB NB => ?_⟩
  · obtain ⟨_, _, _, _, _, _, _, _, _, rfl, _, _⟩ := F_law.ex
    exact fun s v => .of_eq rfl
  have g__law_is_half := d__law_is_half (P := P) (w := w) (base := base) T M Z F__law_is_half
  have e__law_is_half := fc_mk F__law_is_half g__law_is_half q__law_is_half
  have g__law_take := d__law_take (P := P) (w := w) (base := base) T M Z F__law_take
  have e__law_take := fc_mk F__law_take g__law_take q__law_take
  have g__law_modified := d__law_modified (P := P) (w := w) (base := base) T M Z F__law_modified (e__law_take.mono (by decide))
  have e__law_modified := fc_mk F__law_modified g__law_modified q__law_modified
  have g__law_pool := d__law_pool (P := P) (w := w) (base := base) T M Z F__law_pool
  have e__law_pool := fc_mk F__law_pool g__law_pool q__law_pool
  have g__law_random_half := d__law_random_half (P := P) (w := w) (base := base) T M Z F__law_random_half (e__law_take.mono (by decide))
  have e__law_random_half := fc_mk F__law_random_half g__law_random_half q__law_random_half
  have g_is_integer := d_is_integer (P := P) (w := w) (base := base) T M Z F_is_integer
  have e_is_integer_0 := fcd_mk (j := 1) (dws := []) F_is_integer g_is_integer (FunD.binds1 F_is_integer 2 1 (by simp) rfl fun _ _ _ _ _ _ _ us its hu hi => match us, its, hu, hi with | [_, _], [_], _, _ => ⟨_, rfl, rfl⟩) (fun _ _ => .nil)
  have e_is_integer_1 := fcd_mk (j := 0) (dws := [.int 0]) F_is_integer g_is_integer (FunD.binds1 F_is_integer 1 0 (by simp) rfl fun _ _ _ _ _ _ _ us its hu hi => match us, its, hu, hi with | [_], [_], _, _ => ⟨_, rfl, rfl⟩) (fun _ _ => .cons (.int _) (.nil))
  have g_is_columns := d_is_columns (P := P) (w := w) (base := base) T M Z F_is_columns (e_is_integer_0.mono (by decide))
  have e_is_columns := fc_mk F_is_columns g_is_columns q_is_columns
  have g_is_planar := d_is_planar (P := P) (w := w) (base := base) T M Z F_is_planar
  have e_is_planar := fc_mk F_is_planar g_is_planar q_is_planar
  have g_is_half := d_is_half (P := P) (w := w) (base := base) T M Z F_is_half (e_is_columns.mono (by decide)) (e_is_integer_1.mono (by decide)) (e_is_planar.mono (by decide))
  have e_is_half := fc_mk F_is_half g_is_half q_is_half
  have g_law := d_law (P := P) (w := w) (base := base) T M Z F_law (e__law_is_half.mono (by decide)) (e__law_modified.mono (by decide)) (e__law_pool.mono (by decide)) (e__law_random_half.mono (by decide)) (e__law_take.mono (by decide)) (e_is_half.mono (by decide))
  exact g_law
abbrev lvl : Nat := 4
end K35
set_option Elab.async false
set_option linter.all false
set_option maxRecDepth 100000
namespace CV
open PySem PySem.Spec PyProof.Rows L2
open CC (W Ob S Hh Lo R RS rd wr al nxt)
inductive Fl where
  | o | s | b
inductive U where
  | non | bl (b : Bool) | int (i : Int) | str (s : Str) | tup (us : List U)
  | lst (z : Fl) (us : List U) | frz (ns : List Int) | dct (z : Fl) (kvs : List (Key × U)) | dtt (z : Fl) (kvs : List (List Key × U)) | ins (z : Fl) (c : Nat) (fs : List (Nat × U))
abbrev VL := List (Option U)
inductive RU (α : Type) where
  | ok (a : α) (v : VL) | exc (c : Nat) (u : U) (v : VL) | bad
inductive RSU where
  | nx (v : VL) | ret (u : U) (v : VL) | brk (v : VL) | ct (v : VL) | exc (c : Nat) (u : U) (v : VL) | bad
def RU.bind {α β : Type} (r : RU α) (k : α → VL → RU β) : RU β :=
  match r with
  | .ok a v => k a v
  | .exc c u v => .exc c u v
  | .bad => .bad
def fV {α : Type} : VL → (VL → α) → α
  | [], k => k []
  | a :: r, k => fV r fun r' => k (a :: r')
theorem fV_eq {α : Type} : ∀ (v : VL) (k : VL → α), fV v k = k v
  | [], k => rfl
  | a :: r, k => by unfold fV; rw [fV_eq r]
abbrev Cf := Nat → Option Ob
abbrev Pr := Nat → Prop
inductive Sh : Fl → U → List U → Ob → List W → Prop
  | lst {z : Fl} {us : List U} {ws : List W} : Sh z (.lst z us) us (.lst ws) ws
  | frz {ns : List Int} : Sh .s (.frz ns) [] (.frz ns) []
  | dct {z : Fl} {kvs : List (Key × U)} {kws : List (Key × W)} (h : kvs.map (·.1) = kws.map (·.1)) : Sh z (.dct z kvs) (kvs.map (·.2)) (.dct kws) (kws.map (·.2))
  | dtt {z : Fl} {kvs : List (List Key × U)} {kws : List (List Key × W)} (h : kvs.map (·.1) = kws.map (·.1)) : Sh z (.dtt z kvs) (kvs.map (·.2)) (.dtt kws) (kws.map (·.2))
  | ins {z : Fl} {c : Nat} {fs : List (Nat × U)} {gs : List (Nat × W)} (h : fs.map (·.1) = gs.map (·.1)) : Sh z (.ins z c fs) (fs.map (·.2)) (.ins c gs) (gs.map (·.2))
mutual
inductive D0 (c : Cf) : U → W → List Nat → List Nat → Prop
  | non : D0 c .non .non [] []
  | bl (b : Bool) : D0 c (.bl b) (.bl b) [] []
  | int (i : Int) : D0 c (.int i) (.int i) [] []
  | str (z : Str) : D0 c (.str z) (.str z) [] []
  | tup {us : List U} {ws : List W} {T : List Nat} (r : D0s c us ws [] T) : D0 c (.tup us) (.tup ws) [] T
  | own {n : Nat} {ob : Ob} {u : U} {us : List U} {ws : List W} {F T : List Nat} (h : c n = some ob) (k : Sh .o u us ob ws) (r : D0s c us ws F T) : D0 c u (.ref n) (n :: F) T
  | shr {n : Nat} {ob : Ob} {u : U} {us : List U} {ws : List W} {F T : List Nat} (h : c n = some ob) (k : Sh .s u us ob ws) (r : D0s c us ws F T) : D0 c u (.ref n) [] (n :: (F ++ T))
inductive D0s (c : Cf) : List U → List W → List Nat → List Nat → Prop
  | nil : D0s c [] [] [] []
  | cons {u : U} {w : W} {us : List U} {ws : List W} {F T F' T' : List Nat} (h : D0 c u w F T) (r : D0s c us ws F' T') : D0s c (u :: us) (w :: ws) (F ++ F') (T ++ T')
end
inductive D1 (c : Cf) : U → W → List Nat → List Nat → List Nat → Prop
  | z {u : U} {w : W} {F T : List Nat} (h : D0 c u w F T) : D1 c u w F T []
  | b {n : Nat} {ob : Ob} {u : U} {us : List U} {ws : List W} {F T : List Nat} (h : c n = some ob) (k : Sh .b u us ob ws) (r : D0s c us ws F T) : D1 c u (.ref n) [] T (n :: F)
def D (c : Cf) (E B : Pr) (u : U) (w : W) (F : List Nat) : Prop := ∃ T Z, D1 c u w F T Z ∧ (∀ a ∈ F, E a) ∧ (∀ a ∈ T, ¬ E a) ∧ ∀ a ∈ Z, B a
inductive Ds (c : Cf) (E B : Pr) : List U → List W → List Nat → Prop
  | nil : Ds c E B [] [] []
  | cons {u : U} {w : W} {us : List U} {ws : List W} {F F' : List Nat} (h : D c E B u w F) (r : Ds c E B us ws F') : Ds c E B (u :: us) (w :: ws) (F ++ F')
mutual
theorem D0.mono {c c' : Cf} : ∀ {u : U} {w : W} {F T : List Nat}, D0 c u w F T → (∀ a, a ∈ F ∨ a ∈ T → c' a = c a) → D0 c' u w F T
  | _, _, _, _, .non, _ => .non
  | _, _, _, _, .bl b, _ => .bl b
  | _, _, _, _, .int i, _ => .int i
  | _, _, _, _, .str z, _ => .str z
  | _, _, _, _, .tup r, h => .tup (D0s.mono r h)
  | _, _, _, _, .own e k r, h => .own ((h _ (.inl (List.mem_cons_self ..))).trans e) k (D0s.mono r fun a ha => h a (ha.imp (List.mem_cons_of_mem _) id))
  | _, _, _, _, .shr e k r, h => .shr ((h _ (.inr (List.mem_cons_self ..))).trans e) k (D0s.mono r fun a ha => h a (.inr (List.mem_cons_of_mem _ (List.mem_append.mpr ha))))
theorem D0s.mono {c c' : Cf} : ∀ {us : List U} {ws : List W} {F T : List Nat}, D0s c us ws F T → (∀ a, a ∈ F ∨ a ∈ T → c' a = c a) → D0s c' us ws F T
  | _, _, _, _, .nil, _ => .nil
  | _, _, _, _, .cons e r, h => .cons (D0.mono e fun a ha => h a (ha.imp (List.mem_append_left _) (List.mem_append_left _))) (D0s.mono r fun a ha => h a (ha.imp (List.mem_append_right _) (List.mem_append_right _)))
end
mutual
theorem D0.alive {c : Cf} : ∀ {u : U} {w : W} {F T : List Nat}, D0 c u w F T → ∀ a, a ∈ F ∨ a ∈ T → c a ≠ none
  | _, _, _, _, .non, _, h => by simp at h
  | _, _, _, _, .bl b, _, h => by simp at h
  | _, _, _, _, .int i, _, h => by simp at h
  | _, _, _, _, .str z, _, h => by simp at h
  | _, _, _, _, .tup r, a, h => D0s.alive r a h
  | _, _, _, _, .own e k r, a, h => by
    rcases h with h | h
    · rcases List.mem_cons.mp h with rfl | h
      · rw [e]; exact fun z => by cases z
      · exact D0s.alive r a (.inl h)
    · exact D0s.alive r a (.inr h)
  | _, _, _, _, .shr e k r, a, h => by
    rcases h with h | h
    · cases h
    · rcases List.mem_cons.mp h with rfl | h
      · rw [e]; exact fun z => by cases z
      · exact D0s.alive r a (List.mem_append.mp h)
theorem D0s.alive {c : Cf} : ∀ {us : List U} {ws : List W} {F T : List Nat}, D0s c us ws F T → ∀ a, a ∈ F ∨ a ∈ T → c a ≠ none
  | _, _, _, _, .nil, _, h => by simp at h
  | _, _, _, _, .cons e r, a, h => by
    simp only [List.mem_append] at h
    rcases h with (h | h) | (h | h)
    · exact D0.alive e a (.inl h)
    · exact D0s.alive r a (.inl h)
    · exact D0.alive e a (.inr h)
    · exact D0s.alive r a (.inr h)
end
theorem D1.mono {c c' : Cf} {u : U} {w : W} {F T Z : List Nat} (h : D1 c u w F T Z) (e : ∀ a, a ∈ F ∨ a ∈ T ∨ a ∈ Z → c' a = c a) : D1 c' u w F T Z := by
  cases h with
  | z h => exact .z (h.mono fun a ha => e a (ha.imp id .inl))
  | b q k r => exact .b ((e _ (.inr (.inr (List.mem_cons_self ..)))).trans q) k (r.mono fun a ha => e a (ha.elim (fun m => .inr (.inr (List.mem_cons_of_mem _ m))) fun m => .inr (.inl m)))
theorem D1.alive {c : Cf} {u : U} {w : W} {F T Z : List Nat} (h : D1 c u w F T Z) (a : Nat) (m : a ∈ F ∨ a ∈ T ∨ a ∈ Z) : c a ≠ none := by
  cases h with
  | z h => exact h.alive a (m.imp id fun m => m.elim id fun m => by cases m)
  | b q k r =>
    rcases m with m | m | m
    · cases m
    · exact r.alive a (.inr m)
    · rcases List.mem_cons.mp m with rfl | m
      · rw [q]; exact fun z => by cases z
      · exact r.alive a (.inl m)
theorem D.alive {c : Cf} {E B : Pr} {u : U} {w : W} {F : List Nat} (h : D c E B u w F) (a : Nat) (m : a ∈ F) : c a ≠ none := by
  obtain ⟨T, Z, h, _⟩ := h
  exact h.alive a (.inl m)
theorem Ds.alive {c : Cf} {E B : Pr} {us : List U} {ws : List W} {F : List Nat} (h : Ds c E B us ws F) (a : Nat) (m : a ∈ F) : c a ≠ none := by
  induction h with
  | nil => cases m
  | cons h r ih => exact (List.mem_append.mp m).elim (h.alive a) ih
structure Keep (c : Cf) (E K : Pr) (c' : Cf) (E' : Pr) : Prop where
  sh : ∀ n ob, c n = some ob → ¬ E n → c' n = some ob ∧ ¬ E' n
  kp : ∀ n, K n → c' n = c n ∧ (E n → E' n)
  al : ∀ n, c n ≠ none → c' n ≠ none
theorem Keep.rfl' {c : Cf} {E K : Pr} : Keep c E K c E := ⟨fun _ _ h n => ⟨h, n⟩, fun _ _ => ⟨rfl, id⟩, fun _ h => h⟩
theorem Keep.trans {c c1 c2 : Cf} {E E1 E2 K : Pr} (x : Keep c E K c1 E1) (y : Keep c1 E1 K c2 E2) : Keep c E K c2 E2 :=
  ⟨fun n ob h e => y.sh n ob (x.sh n ob h e).1 (x.sh n ob h e).2, fun n h => ⟨(y.kp n h).1.trans (x.kp n h).1, fun e => (y.kp n h).2 ((x.kp n h).2 e)⟩, fun n h => y.al n (x.al n h)⟩
theorem Keep.weak {c c1 : Cf} {E E1 K K1 : Pr} (x : Keep c E K1 c1 E1) (h : ∀ n, K n → K1 n) : Keep c E K c1 E1 := ⟨x.sh, fun n k => x.kp n (h n k), x.al⟩
theorem D.mono {c c' : Cf} {E E' B K : Pr} {u : U} {w : W} {F : List Nat} (h : D c E B u w F) (x : Keep c E K c' E') (hb : ∀ n, B n → K n) (hf : ∀ a ∈ F, K a) : D c' E' B u w F := by
  obtain ⟨T, Z, d, h1, h2, h3⟩ := h
  have al := d.alive
  refine ⟨T, Z, d.mono fun a ha => ?_, fun a ha => (x.kp a (hf a ha)).2 (h1 a ha), fun a ha => ?_, h3⟩
  · rcases ha with ha | ha | ha
    · exact (x.kp a (hf a ha)).1
    · cases e : c a with
      | none => exact absurd e (al a (.inr (.inl ha)))
      | some ob => exact (x.sh a ob e (h2 a ha)).1
    · exact (x.kp a (hb a (h3 a ha))).1
  · cases e : c a with
    | none => exact absurd e (al a (.inr (.inl ha)))
    | some ob => exact (x.sh a ob e (h2 a ha)).2
theorem Ds.mono {c c' : Cf} {E E' B K : Pr} {us : List U} {ws : List W} {F : List Nat} (h : Ds c E B us ws F) (x : Keep c E K c' E') (hb : ∀ n, B n → K n) (hf : ∀ a ∈ F, K a) : Ds c' E' B us ws F := by
  induction h with
  | nil => exact .nil
  | cons h r ih => exact .cons (h.mono x hb fun a m => hf a (List.mem_append_left _ m)) (ih fun a m => hf a (List.mem_append_right _ m))
structure Ct where
  p : Hh
  aux : List (U × W)
  mp : Option W
  mi : Nat
structure SL (C : Ct) (md : Bool) (c : Cf) (E K B : Pr) (vl : VL) (l : Lo) (Fs : Nat → List Nat) : Prop where
  len : vl.length = l.length
  has : ∀ (i : Nat) (u : U), vl[i]? = some (some u) → ∃ w, l[i]? = some (some w) ∧ D c E B u w (Fs i)
  own : md = true → (∀ i, (Fs i).Nodup ∧ ∀ a ∈ Fs i, ¬ K a) ∧ ∀ i j a, a ∈ Fs i → a ∈ Fs j → i = j
  bor : md = false → ∀ i, ∀ a ∈ Fs i, B a
  ex : ∀ i, ∀ a ∈ Fs i, c a ≠ none ∧ E a
  ax : ∀ u w, (u, w) ∈ C.aux → D c E B u w []
  mpk : ∀ w, C.mp = some w → l[C.mi]? = some (some w)
  ev : ∀ n, c n = none → E n
  bk : ∀ n, B n → K n
  ka : ∀ n, K n → c n ≠ none ∧ E n
def Fr (F : List Nat) (K : Pr) (Fs : Nat → List Nat) : Prop := F.Nodup ∧ ∀ a ∈ F, ¬ K a ∧ ∀ i, a ∉ Fs i
theorem Fr.nil {K : Pr} {Fs : Nat → List Nat} : Fr [] K Fs := ⟨List.nodup_nil, fun _ h => by cases h⟩
def kU (K : Pr) (F : List Nat) : Pr := fun n => K n ∨ n ∈ F
section
variable {C : Ct} {md : Bool} {c c' c1 : Cf} {E E' E1 K K1 B : Pr} {vl vl' : VL} {l l' : Lo} {Fs Fs' : Nat → List Nat} {F : List Nat}
theorem SL.weak (r : SL C md c E K1 B vl l Fs) (h : ∀ n, K n → K1 n) (hb : ∀ n, B n → K n) : SL C md c E K B vl l Fs :=
  ⟨r.len, r.has, fun m => ⟨fun i => ⟨((r.own m).1 i).1, fun a ha k => ((r.own m).1 i).2 a ha (h a k)⟩, (r.own m).2⟩, r.bor, r.ex, r.ax, r.mpk, r.ev, hb, fun n k => r.ka n (h n k)⟩
theorem SL.grow (r : SL C md c E K B vl l Fs) (hf : Fr F K Fs) (ha : ∀ a ∈ F, c a ≠ none ∧ E a) : SL C md c E (kU K F) B vl l Fs :=
  ⟨r.len, r.has, fun m => ⟨fun i => ⟨((r.own m).1 i).1, fun a h k => k.elim (((r.own m).1 i).2 a h) fun k => (hf.2 a k).2 i h⟩, (r.own m).2⟩, r.bor, r.ex, r.ax, r.mpk, r.ev, fun n h => .inl (r.bk n h), fun n k => k.elim (r.ka n) (ha n)⟩
end
abbrev Rl (α' α : Type) := Cf → Pr → Pr → α' → α → List Nat → Prop
def Aft {α' α : Type} (C : Ct) (md : Bool) (c : Cf) (E K B : Pr) (l : Lo) (rel : Rl α' α) (r : RU α') (r' : R α) : Prop :=
  match r with
  | .ok u v => ∃ w s E' F Fs, r' = .ok w s ∧ Keep c E K (rd C.p s) E' ∧ SL C md (rd C.p s) E' K B v l Fs ∧ rel (rd C.p s) E' B u w F ∧ Fr F K Fs
  | .exc k u v => ∃ w s E' Fs, r' = .exc k w s ∧ Keep c E K (rd C.p s) E' ∧ SL C md (rd C.p s) E' K B v l Fs ∧ D (rd C.p s) E' (fun _ => False) u w []
  | .bad => True
def Sim {α' α : Type} (C : Ct) (md : Bool) (rel : Rl α' α) (vm : VL → RU α') (m : Lo → S → R α) : Prop :=
  ∀ s l vl E K B Fs, SL C md (rd C.p s) E K B vl l Fs → Aft C md (rd C.p s) E K B l rel (vm vl) (m l s)
abbrev SimE (C : Ct) (md : Bool) := Sim C md D
abbrev SimA (C : Ct) (md : Bool) := Sim C md Ds
def relB : Rl Bool Bool := fun _ _ _ b b' F => b = b' ∧ F = []
abbrev SimT (C : Ct) (md : Bool) := Sim C md relB
section
variable {α α' β β' : Type} {C : Ct} {md : Bool} {c c1 : Cf} {E E1 K K1 B : Pr} {l : Lo} {rel : Rl α' α} {rel2 : Rl β' β}
theorem Aft.bindK {r : RU α'} {r' : R α} {k : α' → VL → RU β'} {k' : α → S → R β} (kp0 : Keep c E K c1 E1) (sub : ∀ n, K n → K1 n) (hb : ∀ n, B n → K n) (h : Aft C md c1 E1 K1 B l rel r r')
    (hk : ∀ u v w s E2 F Fs, Keep c1 E1 K1 (rd C.p s) E2 → SL C md (rd C.p s) E2 K1 B v l Fs → rel (rd C.p s) E2 B u w F → Fr F K1 Fs → Aft C md c E K B l rel2 (k u v) (k' w s)) : Aft C md c E K B l rel2 (r.bind k) (r'.bind k') := by
  cases r with
  | ok u v =>
    obtain ⟨w, s, E2, F, Fs, e, x, y, z, f⟩ := h
    subst e
    exact hk u v w s E2 F Fs x y z f
  | exc k u v =>
    obtain ⟨w, s, E2, Fs, e, x, y, z⟩ := h
    subst e
    exact ⟨w, s, E2, Fs, rfl, kp0.trans (x.weak sub), y.weak sub hb, z⟩
  | bad => trivial
theorem Aft.bind {r : RU α'} {r' : R α} {k : α' → VL → RU β'} {k' : α → S → R β} (hb : ∀ n, B n → K n) (h : Aft C md c E K B l rel r r')
    (hk : ∀ u v w s E2 F Fs, Keep c E K (rd C.p s) E2 → SL C md (rd C.p s) E2 K B v l Fs → rel (rd C.p s) E2 B u w F → Fr F K Fs → Aft C md c E K B l rel2 (k u v) (k' w s)) : Aft C md c E K B l rel2 (r.bind k) (r'.bind k') :=
  h.bindK .rfl' (fun _ h => h) hb hk
def Ext (c c' : Cf) : Prop := ∀ n ob, c n = some ob → c' n = some ob
theorem Ext.keep (x : Ext c c1) (ka : ∀ n, K n → c n ≠ none ∧ E n) : Keep c E K c1 E :=
  ⟨fun n ob h e => ⟨x n ob h, e⟩, fun n h => ⟨by
    cases e : c n with
    | none => exact absurd e (ka n h).1
    | some ob => exact x n ob e, id⟩, fun n h => by
    cases e : c n with
    | none => exact absurd e h
    | some ob => rw [x n ob e]; exact fun z => by cases z⟩
theorem ext_al {p : Hh} {s : S} {o : Ob} : Ext (rd p s) (rd p (al s o)) := fun n ob h => by
  rw [CC.rd_al, if_neg (fun e => by have := CC.rd_lt h; omega)]; exact h
theorem Ext.rfl' : Ext c c := fun _ _ h => h
theorem D1.ext {u : U} {w : W} {F T Z : List Nat} (h : D1 c u w F T Z) (x : Ext c c1) : D1 c1 u w F T Z := h.mono fun a m => by
  cases e : c a with
  | none => exact absurd e (h.alive a m)
  | some ob => exact x a ob e
theorem D0s.ext {us : List U} {ws : List W} {F T : List Nat} (h : D0s c us ws F T) (x : Ext c c1) : D0s c1 us ws F T := h.mono fun a m => by
  cases e : c a with
  | none => exact absurd e (h.alive a m)
  | some ob => exact x a ob e
theorem D.ext {u : U} {w : W} {F : List Nat} (h : D c E B u w F) (x : Ext c c1) : D c1 E B u w F := by
  obtain ⟨T, Z, d, q⟩ := h
  exact ⟨T, Z, d.ext x, q⟩
theorem Ds.ext {us : List U} {ws : List W} {F : List Nat} (h : Ds c E B us ws F) (x : Ext c c1) : Ds c1 E B us ws F := by
  induction h with
  | nil => exact .nil
  | cons h r ih => exact .cons (h.ext x) ih
theorem SL.ext {vl : VL} {Fs : Nat → List Nat} (r : SL C md c E K B vl l Fs) (x : Ext c c1) (al : ∀ n, c1 n = none → c n = none) : SL C md c1 E K B vl l Fs :=
  ⟨r.len, fun i u h => by
    obtain ⟨w, h1, h2⟩ := r.has i u h
    exact ⟨w, h1, h2.ext x⟩, r.own, r.bor, fun i a h => ⟨fun z => (r.ex i a h).1 (al a z), (r.ex i a h).2⟩, fun u w h => (r.ax u w h).ext x, r.mpk, fun n h => r.ev n (al n h), r.bk, fun n h => ⟨fun z => (r.ka n h).1 (al n z), (r.ka n h).2⟩⟩
theorem none_al {p : Hh} {s : S} {o : Ob} (n : Nat) (h : rd p (al s o) n = none) : rd p s n = none := by
  rw [CC.rd_al] at h
  split at h
  · cases h
  · exact h
theorem rd_new {p : Hh} {s : S} {o : Ob} : rd p (al s o) (nxt p s) = some o := by rw [CC.rd_al, if_pos rfl]
theorem rd_nxt {p : Hh} {s : S} : rd p s (nxt p s) = none := CC.rd_none (Nat.lt_irrefl _)
end
end CV
set_option Elab.async false
set_option linter.all false
set_option maxRecDepth 100000
namespace CV
open PySem PySem.Spec PyProof.Rows L2
open CC (W Ob S Hh Lo R RS rd wr al nxt)
theorem no {P : Nat → Prop} : ∀ a ∈ ([] : List Nat), P a := fun a h => absurd h (by simp)
def frz : U → U
  | .lst .o us => .lst .s us
  | .dct .o k => .dct .s k
  | .dtt .o k => .dtt .s k
  | .ins .o c f => .ins .s c f
  | u => u
def bor : U → U
  | .lst .o us => .lst .b us
  | .dct .o k => .dct .b k
  | .dtt .o k => .dtt .b k
  | .ins .o c f => .ins .b c f
  | u => u
def noB : U → Bool
  | .lst .b _ => false
  | .dct .b _ => false
  | .dtt .b _ => false
  | .ins .b _ _ => false
  | _ => true
def noO : U → Bool
  | .lst .o _ => false
  | .dct .o _ => false
  | .dtt .o _ => false
  | .ins .o _ _ => false
  | _ => true
def itm : Fl → U → U
  | .o, u => u
  | .s, u => frz u
  | .b, u => bor u
section
variable {c : Cf} {E B : Pr} {u : U} {w : W} {us : List U} {ws : List W} {F T Z : List Nat}
theorem D0.frz (h : D0 c u w F T) : ∃ T', D0 c (frz u) w [] T' ∧ ∀ a ∈ T', a ∈ F ∨ a ∈ T := by
  cases h with
  | own e k r =>
    cases k with
    | lst => exact ⟨_, .shr e .lst r, fun a h => by simp only [List.mem_cons, List.mem_append] at h ⊢; rcases h with h | h | h <;> simp [h]⟩
    | dct q => exact ⟨_, .shr e (.dct q) r, fun a h => by simp only [List.mem_cons, List.mem_append] at h ⊢; rcases h with h | h | h <;> simp [h]⟩
    | dtt q => exact ⟨_, .shr e (.dtt q) r, fun a h => by simp only [List.mem_cons, List.mem_append] at h ⊢; rcases h with h | h | h <;> simp [h]⟩
    | ins q => exact ⟨_, .shr e (.ins q) r, fun a h => by simp only [List.mem_cons, List.mem_append] at h ⊢; rcases h with h | h | h <;> simp [h]⟩
  | shr e k r =>
    cases k with
    | lst => exact ⟨_, .shr e .lst r, fun a h => .inr h⟩
    | frz => exact ⟨_, .shr e .frz r, fun a h => .inr h⟩
    | dct q => exact ⟨_, .shr e (.dct q) r, fun a h => .inr h⟩
    | dtt q => exact ⟨_, .shr e (.dtt q) r, fun a h => .inr h⟩
    | ins q => exact ⟨_, .shr e (.ins q) r, fun a h => .inr h⟩
  | non => exact ⟨_, .non, no⟩
  | bl b => exact ⟨_, .bl b, no⟩
  | int i => exact ⟨_, .int i, no⟩
  | str z => exact ⟨_, .str z, no⟩
  | tup r => exact ⟨_, .tup r, fun a h => .inr h⟩
theorem D0.bor (h : D0 c u w F T) : ∃ T' Z', D1 c (bor u) w [] T' Z' ∧ (∀ a ∈ T', a ∈ T) ∧ ∀ a ∈ Z', a ∈ F := by
  cases h with
  | own e k r =>
    cases k with
    | lst => exact ⟨_, _, .b e .lst r, fun a h => h, fun a h => h⟩
    | dct q => exact ⟨_, _, .b e (.dct q) r, fun a h => h, fun a h => h⟩
    | dtt q => exact ⟨_, _, .b e (.dtt q) r, fun a h => h, fun a h => h⟩
    | ins q => exact ⟨_, _, .b e (.ins q) r, fun a h => h, fun a h => h⟩
  | shr e k r =>
    cases k with
    | lst => exact ⟨_, _, .z (.shr e .lst r), fun a h => h, no⟩
    | frz => exact ⟨_, _, .z (.shr e .frz r), fun a h => h, no⟩
    | dct q => exact ⟨_, _, .z (.shr e (.dct q) r), fun a h => h, no⟩
    | dtt q => exact ⟨_, _, .z (.shr e (.dtt q) r), fun a h => h, no⟩
    | ins q => exact ⟨_, _, .z (.shr e (.ins q) r), fun a h => h, no⟩
  | non => exact ⟨_, _, .z .non, fun a h => h, no⟩
  | bl b => exact ⟨_, _, .z (.bl b), fun a h => h, no⟩
  | int i => exact ⟨_, _, .z (.int i), fun a h => h, no⟩
  | str z => exact ⟨_, _, .z (.str z), fun a h => h, no⟩
  | tup r => exact ⟨_, _, .z (.tup r), fun a h => h, no⟩
theorem D1.noB (h : D1 c u w F T Z) (q : noB u = true) : D0 c u w F T ∧ Z = [] := by
  cases h with
  | z h => exact ⟨h, rfl⟩
  | b e k r => cases k <;> cases q
theorem D1.bor (h : D1 c u w F T Z) : ∃ T' Z', D1 c (bor u) w [] T' Z' ∧ (∀ a ∈ T', a ∈ T) ∧ ∀ a ∈ Z', a ∈ F ∨ a ∈ Z := by
  cases h with
  | z h =>
    obtain ⟨T', Z', d, h1, h2⟩ := h.bor
    exact ⟨T', Z', d, h1, fun a m => .inl (h2 a m)⟩
  | b e k r =>
    cases k with
    | lst => exact ⟨_, _, .b e .lst r, fun a h => h, fun a h => .inr h⟩
    | dct q => exact ⟨_, _, .b e (.dct q) r, fun a h => h, fun a h => .inr h⟩
    | dtt q => exact ⟨_, _, .b e (.dtt q) r, fun a h => h, fun a h => .inr h⟩
    | ins q => exact ⟨_, _, .b e (.ins q) r, fun a h => h, fun a h => .inr h⟩
theorem D1.noO (h : D1 c u w F T Z) (q : noO u = true) : F = [] := by
  cases h with
  | z h =>
    cases h with
    | own e k r => cases k <;> cases q
    | _ => rfl
  | b e k r => rfl
theorem D.bor (h : D c E B u w F) (hf : ∀ a ∈ F, B a) : D c E B (bor u) w [] := by
  obtain ⟨T, Z, d, h1, h2, h3⟩ := h
  obtain ⟨T', Z', d', t, z⟩ := d.bor
  exact ⟨T', Z', d', no, fun a m => h2 a (t a m), fun a m => (z a m).elim (hf a) (h3 a)⟩
theorem D.noO (h : D c E B u w F) (q : noO u = true) : F = [] := by
  obtain ⟨T, Z, d, _⟩ := h
  exact d.noO q
theorem D.noB (h : D c E B u w F) (q : noB u = true) {B' : Pr} : D c E B' u w F := by
  obtain ⟨T, Z, d, h1, h2, h3⟩ := h
  obtain ⟨d0, rfl⟩ := d.noB q
  exact ⟨T, [], .z d0, h1, h2, no⟩
theorem D.in (h : D c E B u w F) {B' : Pr} (hb : ∀ a, B a → B' a) : D c E B' u w F := by
  obtain ⟨T, Z, d, h1, h2, h3⟩ := h
  exact ⟨T, Z, d, h1, h2, fun a m => hb a (h3 a m)⟩
theorem D.own (h : D c E B u w F) (a : Nat) (m : a ∈ F) : E a := by
  obtain ⟨T, Z, d, h1, _⟩ := h
  exact h1 a m
theorem Ds.own (h : Ds c E B us ws F) (a : Nat) (m : a ∈ F) : E a := by
  induction h with
  | nil => cases m
  | cons h r ih => exact (List.mem_append.mp m).elim (h.own a) ih
theorem Ds.len (h : Ds c E B us ws F) : us.length = ws.length := by
  induction h with
  | nil => rfl
  | cons h r ih => simp [ih]
def dn (E : Pr) (F : List Nat) : Pr := fun n => E n ∧ n ∉ F
theorem D.frz (h : D c E B u w F) (q : CV.noB u = true) {B' : Pr} : D c (dn E F) B' (frz u) w [] := by
  obtain ⟨T, Z, d, h1, h2, h3⟩ := h
  obtain ⟨d0, rfl⟩ := d.noB q
  obtain ⟨T', d', t⟩ := d0.frz
  exact ⟨T', [], .z d', no, fun a m e => (t a m).elim (fun m => e.2 m) fun m => h2 a m e.1, no⟩
theorem D.less (h : D c E B u w F) {G : List Nat} (hd : ∀ a ∈ F, a ∉ G) : D c (dn E G) B u w F := by
  obtain ⟨T, Z, d, h1, h2, h3⟩ := h
  exact ⟨T, Z, d, fun a m => ⟨h1 a m, hd a m⟩, fun a m e => h2 a m e.1, h3⟩
theorem Ds.to0 (h : Ds c E B us ws F) (q : us.all CV.noB = true) : ∃ T, D0s c us ws F T ∧ (∀ a ∈ F, E a) ∧ ∀ a ∈ T, ¬ E a := by
  induction h with
  | nil => exact ⟨[], .nil, no, no⟩
  | cons h r ih =>
    simp only [List.all_cons, Bool.and_eq_true] at q
    obtain ⟨T, Z, d, h1, h2, h3⟩ := h
    obtain ⟨d0, rfl⟩ := d.noB q.1
    obtain ⟨T', d', i1, i2⟩ := ih q.2
    exact ⟨T ++ T', .cons d0 d', fun a m => (List.mem_append.mp m).elim (h1 a) (i1 a), fun a m => (List.mem_append.mp m).elim (h2 a) (i2 a)⟩
theorem D0s.to {F T : List Nat} (h : D0s c us ws F T) (h1 : ∀ a ∈ F, E a) (h2 : ∀ a ∈ T, ¬ E a) : Ds c E B us ws F := by
  induction us generalizing ws F T with
  | nil => cases h; exact .nil
  | cons u us ih =>
    cases h with
    | cons d r => exact .cons ⟨_, [], .z d, fun a m => h1 a (List.mem_append_left _ m), fun a m => h2 a (List.mem_append_left _ m), no⟩ (ih r (fun a m => h1 a (List.mem_append_right _ m)) fun a m => h2 a (List.mem_append_right _ m))
theorem Ds.frz {F : List Nat} (h : Ds c E B us ws F) (q : us.all CV.noB = true) {B' : Pr} {G : List Nat} (hg : ∀ a ∈ F, a ∈ G) : Ds c (dn E G) B' (us.map CV.frz) ws [] := by
  induction h with
  | nil => exact .nil
  | cons h r ih =>
    simp only [List.all_cons, Bool.and_eq_true] at q
    refine .cons (F := []) ?_ (ih q.2 fun a m => hg a (List.mem_append_right _ m))
    obtain ⟨T, Z, d, h1, h2, h3⟩ := h
    obtain ⟨d0, rfl⟩ := d.noB q.1
    obtain ⟨T', d', t⟩ := d0.frz
    exact ⟨T', [], .z d', no, fun a m e => (t a m).elim (fun m => e.2 (hg a (List.mem_append_left _ m))) fun m => h2 a m e.1, no⟩
theorem frz_noB : CV.noB u = true → CV.noB (CV.frz u) = true := by
  intro q
  cases u with
  | lst z us => cases z <;> first | rfl | exact q
  | dct z us => cases z <;> first | rfl | exact q
  | dtt z us => cases z <;> first | rfl | exact q
  | ins z n us => cases z <;> first | rfl | exact q
  | _ => rfl
theorem Ds.tup (h : Ds c E B us ws []) (q : us.all CV.noB = true) {B' : Pr} : D c E B' (.tup us) (.tup ws) [] := by
  obtain ⟨T, d, h1, h2⟩ := h.to0 q
  exact ⟨T, [], .z (.tup d), no, h2, no⟩
end
section
variable {C : Ct} {md : Bool} {c c' c1 : Cf} {E E' E1 K K1 B : Pr} {vl vl' : VL} {l l' : Lo} {Fs Fs' : Nat → List Nat} {F : List Nat}
theorem Keep.dn (h : ∀ a ∈ F, ¬ K a) : Keep c E K c (dn E F) := ⟨fun n ob h e => ⟨h, fun z => e z.1⟩, fun n k => ⟨rfl, fun e => ⟨e, fun m => h n m k⟩⟩, fun n h => h⟩
theorem SL.dn (r : SL C md c E K B vl l Fs) (hf : ∀ a ∈ F, ¬ K a ∧ ∀ i, a ∉ Fs i) (al : ∀ a ∈ F, c a ≠ none) : SL C md c (dn E F) K B vl l Fs :=
  ⟨r.len, fun i u h => by
    obtain ⟨w, h1, h2⟩ := r.has i u h
    exact ⟨w, h1, h2.less fun a m m2 => (hf a m2).2 i m⟩, r.own, r.bor, fun i a m => ⟨(r.ex i a m).1, (r.ex i a m).2, fun m2 => (hf a m2).2 i m⟩, fun u w h => (r.ax u w h).less no, r.mpk, fun n e => ⟨r.ev n e, fun m => al n m e⟩, r.bk, fun n k => ⟨(r.ka n k).1, (r.ka n k).2, fun m => (hf n m).1 k⟩⟩
theorem SL.sep (r : SL C md c E (kU K F) B vl l Fs) (hb : ∀ n, B n → K n) {a : Nat} (m : a ∈ F) (nk : ¬ K a) (i : Nat) : a ∉ Fs i := by
  cases md with
  | true => exact fun h => ((r.own rfl).1 i).2 a h (.inr m)
  | false => exact fun h => nk (hb a (r.bor rfl i a h))
end
structure RM {α' α : Type} (rel : Rl α' α) : Prop where
  mono : ∀ {c : Cf} {E B K : Pr} {c' : Cf} {E' : Pr} {x : α'} {w : α} {F : List Nat}, rel c E B x w F → Keep c E K c' E' → (∀ n, B n → K n) → (∀ a ∈ F, K a) → rel c' E' B x w F
  al : ∀ {c : Cf} {E B : Pr} {x : α'} {w : α} {F : List Nat}, rel c E B x w F → ∀ a ∈ F, c a ≠ none ∧ E a
theorem rmD : RM D := ⟨fun h x b f => h.mono x b f, fun h a m => ⟨h.alive a m, h.own a m⟩⟩
theorem rmDs : RM Ds := ⟨fun h x b f => h.mono x b f, fun h a m => ⟨h.alive a m, h.own a m⟩⟩
section
variable {α α' β β' γ γ' : Type} {C : Ct} {md : Bool} {c : Cf} {E K B : Pr} {l : Lo} {vl : VL} {s : S} {Fs : Nat → List Nat} {rel : Rl α' α} {rel2 : Rl β' β} {rel3 : Rl γ' γ}
theorem Aft.two {a : VL → RU α'} {ma : Lo → S → R α} {b : VL → RU β'} {mb : Lo → S → R β} {k : α' → β' → VL → RU γ'} {k' : α → β → S → R γ} (m1 : RM rel) (m2 : RM rel2) (ha : Sim C md rel a ma) (hb : Sim C md rel2 b mb) (r : SL C md (rd C.p s) E K B vl l Fs)
    (hk : ∀ x y v wx wy s2 E2 F1 F2 Fs2, Keep (rd C.p s) E K (rd C.p s2) E2 → SL C md (rd C.p s2) E2 K B v l Fs2 → rel (rd C.p s2) E2 B x wx F1 → rel2 (rd C.p s2) E2 B y wy F2 → Fr (F1 ++ F2) K Fs2 → Aft C md (rd C.p s) E K B l rel3 (k x y v) (k' wx wy s2)) :
    Aft C md (rd C.p s) E K B l rel3 ((a vl).bind fun x v1 => (b v1).bind fun y v2 => k x y v2) ((ma l s).bind fun wx s1 => (mb l s1).bind fun wy s2 => k' wx wy s2) := by
  refine (ha s l vl E K B Fs r).bind r.bk fun x v1 wx s1 E1 F1 Fs1 k1 r1 d1 f1 => ?_
  refine (hb s1 l v1 E1 (kU K F1) B Fs1 (r1.grow f1 (m1.al d1))).bindK k1 (fun n h => .inl h) r.bk fun y v2 wy s2 E2 F2 Fs2 k2 r2 d2 f2 => ?_
  refine hk x y v2 wx wy s2 E2 F1 F2 Fs2 (k1.trans (k2.weak fun n h => .inl h)) (r2.weak (fun n h => .inl h) r.bk) (m1.mono d1 k2 r2.bk fun a m => .inr m) d2 ⟨?_, fun a m => ?_⟩
  · exact List.nodup_append.mpr ⟨f1.1, f2.1, fun a h b h2 e => (f2.2 b h2).1 (.inr (e ▸ h))⟩
  · rcases List.mem_append.mp m with m | m
    · exact ⟨(f1.2 a m).1, fun i => r2.sep r.bk m (f1.2 a m).1 i⟩
    · exact ⟨fun h => (f2.2 a m).1 (.inl h), (f2.2 a m).2⟩
end
def ofO (r : Option U) (v : VL) : RU U := match r with
  | some u => .ok u v
  | none => .bad
def eVarB (i : Nat) : VL → RU U := fun v => match v[i]? with
  | some (some u) => .ok (bor u) v
  | _ => .bad
def eVarN (i : Nat) : VL → RU U := fun v => match v[i]? with
  | some (some u) => if noO u then .ok u v else .bad
  | _ => .bad
def eMov (i : Nat) : VL → RU U := fun v => match v[i]? with
  | some (some u) => .ok u (v.set i none)
  | _ => .bad
def eFrz (i : Nat) : VL → RU U := fun v => match v[i]? with
  | some (some u) => if noO u then .ok u v else .ok (frz u) (v.set i (some (frz u)))
  | _ => .bad
def eC (u : U) : VL → RU U := fun v => .ok u v
def eBin (f : U → U → Option U) (ma mb : VL → RU U) : VL → RU U := fun v => (ma v).bind fun x v1 => (mb v1).bind fun y v2 => ofO (f x y) v2
def eUn (f : U → Option U) (ma : VL → RU U) : VL → RU U := fun v => (ma v).bind fun x v1 => ofO (f x) v1
def aNil : VL → RU (List U) := fun v => .ok [] v
def aCons (ma : VL → RU U) (mr : VL → RU (List U)) : VL → RU (List U) := fun v => (ma v).bind fun x v1 => (mr v1).bind fun xs v2 => .ok (x :: xs) v2
def eTup (mr : VL → RU (List U)) : VL → RU U := fun v => (mr v).bind fun us v1 => if us.length ≤ 1000000 ∧ us.all noB = true then .ok (.tup (us.map frz)) v1 else .bad
def eLst (mr : VL → RU (List U)) : VL → RU U := fun v => (mr v).bind fun us v1 => if us.length ≤ 1000000 ∧ us.all noB = true then .ok (.lst .o us) v1 else .bad
def eB (f : List U → Option U) (mr : VL → RU (List U)) : VL → RU U := fun v => (mr v).bind fun us v1 => ofO (f us) v1
def eIf (mt : VL → RU Bool) (ma mb : VL → RU U) : VL → RU U := fun v => (mt v).bind fun c v1 => match c with
  | true => ma v1
  | false => mb v1
def eAndV (ma mb : VL → RU U) : VL → RU U := fun v => (ma v).bind fun x v1 => match x with
  | .bl true => mb v1
  | .bl false => .ok (.bl false) v1
  | _ => .bad
def eOrV (ma mb : VL → RU U) : VL → RU U := fun v => (ma v).bind fun x v1 => match x with
  | .bl false => mb v1
  | .bl true => .ok (.bl true) v1
  | _ => .bad
def eNotV (ma : VL → RU U) : VL → RU U := fun v => (ma v).bind fun x v1 => match x with
  | .bl c => .ok (.bl (!c)) v1
  | _ => .bad
def tVal (ma : VL → RU U) : VL → RU Bool := fun v => (ma v).bind fun x v1 => match x with
  | .bl c => .ok c v1
  | _ => .bad
def tAndT (ma mb : VL → RU Bool) : VL → RU Bool := fun v => (ma v).bind fun c v1 => match c with
  | true => mb v1
  | false => .ok false v1
def tOrT (ma mb : VL → RU Bool) : VL → RU Bool := fun v => (ma v).bind fun c v1 => match c with
  | false => mb v1
  | true => .ok true v1
def tNotT (ma : VL → RU Bool) : VL → RU Bool := fun v => (ma v).bind fun c v1 => .ok (!c) v1
def tTrue : VL → RU Bool := fun v => .ok true v
def eChain (f f' : U → U → Option U) (ma mb mc : VL → RU U) : VL → RU U := fun v => (ma v).bind fun x v1 => (mb v1).bind fun y v2 => match f x y with
  | some (.bl true) => (mc v2).bind fun u v3 => ofO (f' y u) v3
  | some (.bl false) => .ok (.bl false) v2
  | _ => .bad
def vB (m : VL → RU U) : VL → RU U := fun v => match m v with
  | .ok u _ => if noB u then .ok u v else .bad
  | .exc k u _ => .exc k u v
  | .bad => .bad
def tB (m : VL → RU Bool) : VL → RU Bool := fun v => match m v with
  | .ok u _ => .ok u v
  | .exc k u _ => .exc k u v
  | .bad => .bad
def Op2 (f : Hh → W → W → S → CC.O2) (g : U → U → Option U) : Prop :=
  ∀ {p : Hh} {s : S} {E B : Pr} {x y u : U} {wx wy : W} {Fx Fy : List Nat}, D (rd p s) E B x wx Fx → D (rd p s) E B y wy Fy → (∀ n, rd p s n = none → E n) → (Fx ++ Fy).Nodup → g x y = some u →
    ∃ w s' F, f p wx wy s = some (w, s') ∧ Ext (rd p s) (rd p s') ∧ (∀ n, rd p s' n = none → rd p s n = none) ∧ D (rd p s') E B u w F ∧ F.Nodup ∧ ∀ a ∈ F, a ∈ Fx ++ Fy ∨ rd p s a = none
def Op1 (f : Hh → W → S → CC.O2) (g : U → Option U) : Prop :=
  ∀ {p : Hh} {s : S} {E B : Pr} {x u : U} {wx : W} {Fx : List Nat}, D (rd p s) E B x wx Fx → (∀ n, rd p s n = none → E n) → Fx.Nodup → g x = some u →
    ∃ w s' F, f p wx s = some (w, s') ∧ Ext (rd p s) (rd p s') ∧ (∀ n, rd p s' n = none → rd p s n = none) ∧ D (rd p s') E B u w F ∧ F.Nodup ∧ ∀ a ∈ F, a ∈ Fx ∨ rd p s a = none
def OpN (f : Hh → List W → S → CC.O2) (g : List U → Option U) : Prop :=
  ∀ {p : Hh} {s : S} {E B : Pr} {xs : List U} {u : U} {ws : List W} {Fx : List Nat}, Ds (rd p s) E B xs ws Fx → (∀ n, rd p s n = none → E n) → Fx.Nodup → g xs = some u →
    ∃ w s' F, f p ws s = some (w, s') ∧ Ext (rd p s) (rd p s') ∧ (∀ n, rd p s' n = none → rd p s n = none) ∧ D (rd p s') E B u w F ∧ F.Nodup ∧ ∀ a ∈ F, a ∈ Fx ∨ rd p s a = none
section
variable {C : Ct} {md : Bool}
theorem fin_ext {c : Cf} {E E2 K B : Pr} {l : Lo} {v : VL} {s2 s3 : S} {Fs2 : Nat → List Nat} {u : U} {w : W} {F F1 : List Nat} (k : Keep c E K (rd C.p s2) E2) (r : SL C md (rd C.p s2) E2 K B v l Fs2) (f : Fr F1 K Fs2)
    (x : Ext (rd C.p s2) (rd C.p s3)) (al : ∀ n, rd C.p s3 n = none → rd C.p s2 n = none) (d : D (rd C.p s3) E2 B u w F) (nd : F.Nodup) (sub : ∀ a ∈ F, a ∈ F1 ∨ rd C.p s2 a = none) : Aft C md c E K B l D (.ok u v) (.ok w s3) :=
  ⟨w, s3, E2, F, Fs2, rfl, k.trans (x.keep r.ka), r.ext x al, d, nd, fun a m => (sub a m).elim (f.2 a) fun e => ⟨fun h => (r.ka a h).1 e, fun i h => (r.ex i a h).1 e⟩⟩
theorem sim_bin {f : Hh → W → W → S → CC.O2} {g : U → U → Option U} {a b : VL → RU U} {ma mb : Lo → S → R W} (hf : Op2 f g) (ha : SimE C md a ma) (hb : SimE C md b mb) : SimE C md (eBin g a b) (CC.eBin f C.p ma mb) := fun s l vl E K B Fs r => by
  refine Aft.two rmD rmD ha hb r fun x y v wx wy s2 E2 F1 F2 Fs2 k2 r2 d1 d2 f2 => ?_
  cases e : g x y with
  | none => trivial
  | some u =>
    obtain ⟨w, s3, F, q, x3, al, d, nd, sub⟩ := hf d1 d2 r2.ev f2.1 e
    rw [q]
    exact fin_ext k2 r2 f2 x3 al d nd sub
theorem sim_un {f : Hh → W → S → CC.O2} {g : U → Option U} {a : VL → RU U} {ma : Lo → S → R W} (hf : Op1 f g) (ha : SimE C md a ma) : SimE C md (eUn g a) (CC.eUn f C.p ma) := fun s l vl E K B Fs r => by
  refine (ha s l vl E K B Fs r).bind r.bk fun x v wx s2 E2 F1 Fs2 k2 r2 d1 f1 => ?_
  cases e : g x with
  | none => trivial
  | some u =>
    obtain ⟨w, s3, F, q, x3, al, d, nd, sub⟩ := hf d1 r2.ev f1.1 e
    rw [q]
    exact fin_ext k2 r2 f1 x3 al d nd sub
theorem sim_b {f : Hh → List W → S → CC.O2} {g : List U → Option U} {a : VL → RU (List U)} {ma : Lo → S → R (List W)} (hf : OpN f g) (ha : SimA C md a ma) : SimE C md (eB g a) (CC.eB f C.p ma) := fun s l vl E K B Fs r => by
  refine (ha s l vl E K B Fs r).bind r.bk fun x v wx s2 E2 F1 Fs2 k2 r2 d1 f1 => ?_
  cases e : g x with
  | none => trivial
  | some u =>
    obtain ⟨w, s3, F, q, x3, al, d, nd, sub⟩ := hf d1 r2.ev f1.1 e
    rw [q]
    exact fin_ext k2 r2 f1 x3 al d nd sub
theorem sim_nil : SimA C md aNil CC.aNil := fun s l vl E K B Fs r => ⟨_, s, E, [], Fs, rfl, .rfl', r, .nil, .nil⟩
theorem sim_cons {a : VL → RU U} {ma : Lo → S → R W} {b : VL → RU (List U)} {mb : Lo → S → R (List W)} (ha : SimE C md a ma) (hb : SimA C md b mb) : SimA C md (aCons a b) (CC.aCons ma mb) := fun s l vl E K B Fs r =>
  Aft.two rmD rmDs ha hb r fun x y v wx wy s2 E2 F1 F2 Fs2 k2 r2 d1 d2 f2 => ⟨_, s2, E2, F1 ++ F2, Fs2, rfl, k2, r2, .cons d1 d2, f2⟩
theorem sim_sc {u : U} {w : W} (h : ∀ c, D0 c u w [] []) : SimE C md (eC u) (CC.eC w) := fun s l vl E K B Fs r => ⟨w, s, E, [], Fs, rfl, .rfl', r, ⟨[], [], .z (h _), no, no, no⟩, .nil⟩
theorem sim_int {i : Int} : SimE C md (eC (.int i)) (CC.eC (.int i)) := sim_sc fun _ => .int i
theorem sim_bl {b : Bool} : SimE C md (eC (.bl b)) (CC.eC (.bl b)) := sim_sc fun _ => .bl b
theorem sim_str {z : Str} : SimE C md (eC (.str z)) (CC.eC (.str z)) := sim_sc fun _ => .str z
theorem sim_non : SimE C md (eC .non) (CC.eC .non) := sim_sc fun _ => .non
theorem var_ok {l : Lo} {i : Nat} {w : W} {s : S} (h : l[i]? = some (some w)) : CC.eVar i l s = .ok w s := by unfold CC.eVar; rw [h]
theorem sim_varB (i : Nat) : SimE C false (eVarB i) (CC.eVar i) := fun s l vl E K B Fs r => by
  unfold eVarB
  split
  · rename_i u e
    obtain ⟨w, h1, h2⟩ := r.has i u e
    exact ⟨w, s, E, [], Fs, var_ok h1, .rfl', r, h2.bor (r.bor rfl i), .nil⟩
  · trivial
theorem sim_varN (i : Nat) : SimE C md (eVarN i) (CC.eVar i) := fun s l vl E K B Fs r => by
  unfold eVarN
  split
  · rename_i u e
    split
    · rename_i q
      obtain ⟨w, h1, h2⟩ := r.has i u e
      have f0 := h2.noO q
      rw [f0] at h2
      exact ⟨w, s, E, [], Fs, var_ok h1, .rfl', r, h2, .nil⟩
    · trivial
  · trivial
end
def upF (Fs : Nat → List Nat) (i : Nat) (F : List Nat) : Nat → List Nat := fun j => if j = i then F else Fs j
theorem upF_same {Fs : Nat → List Nat} {i : Nat} {F : List Nat} : upF Fs i F i = F := if_pos rfl
theorem upF_ne {Fs : Nat → List Nat} {i j : Nat} {F : List Nat} (h : j ≠ i) : upF Fs i F j = Fs j := if_neg h
section
variable {C : Ct} {md : Bool} {c : Cf} {E K B : Pr} {vl : VL} {l : Lo} {Fs : Nat → List Nat} {F : List Nat}
theorem SL.put (r : SL C md c E K B vl l Fs) (i : Nat) (o : Option U) (w : W) (l' : Lo) (hl : l'.length = l.length) (hsame : ∀ j, j ≠ i → l'[j]? = l[j]?) (hw : ∀ u, o = some u → i < vl.length → l'[i]? = some (some w) ∧ D c E B u w F)
    (hmp : ∀ w, C.mp = some w → l'[C.mi]? = some (some w)) (nd : F.Nodup) (hf : ∀ a ∈ F, c a ≠ none ∧ E a ∧ (md = true → ¬ K a ∧ ∀ j, j ≠ i → a ∉ Fs j) ∧ (md = false → B a)) : SL C md c E K B (vl.set i o) l' (upF Fs i F) :=
  ⟨by simp [r.len, hl], fun j u h => by
    by_cases e : j = i
    · subst e
      by_cases hi : j < vl.length
      · rw [List.getElem?_set_self hi] at h
        cases h
        rw [upF_same]
        exact ⟨w, hw u rfl hi⟩
      · rw [List.getElem?_eq_none (by simpa using hi)] at h
        cases h
    · rw [List.getElem?_set_ne (Ne.symm e)] at h
      obtain ⟨w, h1, h2⟩ := r.has j u h
      rw [upF_ne e]
      exact ⟨w, (hsame j e).trans h1, h2⟩, fun m => ⟨fun j => by
    by_cases e : j = i
    · subst e; rw [upF_same]; exact ⟨nd, fun a h => ((hf a h).2.2.1 m).1⟩
    · rw [upF_ne e]; exact (r.own m).1 j, fun j k a hj hk => by
    by_cases e : j = i
    · by_cases e2 : k = i
      · rw [e, e2]
      · rw [e, upF_same] at hj
        rw [upF_ne e2] at hk
        exact absurd hk (((hf a hj).2.2.1 m).2 k e2)
    · by_cases e2 : k = i
      · rw [e2, upF_same] at hk
        rw [upF_ne e] at hj
        exact absurd hj (((hf a hk).2.2.1 m).2 j e)
      · rw [upF_ne e] at hj
        rw [upF_ne e2] at hk
        exact (r.own m).2 j k a hj hk⟩, fun m j a h => by
    by_cases e : j = i
    · rw [e, upF_same] at h; exact (hf a h).2.2.2 m
    · rw [upF_ne e] at h; exact r.bor m j a h, fun j a h => by
    by_cases e : j = i
    · rw [e, upF_same] at h; exact ⟨(hf a h).1, (hf a h).2.1⟩
    · rw [upF_ne e] at h; exact r.ex j a h, r.ax, hmp, r.ev, r.bk, r.ka⟩
theorem sim_mov (i : Nat) : SimE C true (eMov i) (CC.eVar i) := fun s l vl E K B Fs r => by
  unfold eMov
  split
  · rename_i u e
    obtain ⟨w, h1, h2⟩ := r.has i u e
    have o := (r.own rfl).1 i
    refine ⟨w, s, E, Fs i, upF Fs i [], var_ok h1, .rfl', r.put i none w l rfl (fun _ _ => rfl) (fun u z => (nomatch z)) r.mpk List.nodup_nil (no), h2, o.1, fun a m => ⟨o.2 a m, fun j => ?_⟩⟩
    by_cases q : j = i
    · rw [q, upF_same]; exact fun z => by cases z
    · rw [upF_ne q]; exact fun z => q ((r.own rfl).2 j i a z m)
  · trivial
theorem sim_tup {a : VL → RU (List U)} {ma : Lo → S → R (List W)} (ha : SimA C md a ma) : SimE C md (eTup a) (CC.eTup ma) := fun s l vl E K B Fs r => by
  refine (ha s l vl E K B Fs r).bind r.bk fun us v ws s2 E2 F1 Fs2 k2 r2 d1 f1 => ?_
  split
  · rename_i q
    rw [if_pos (by rw [← d1.len]; exact q.1)]
    have d2 := d1.frz q.2 (B' := B) (G := F1) (fun a h => h)
    have q2 : (us.map frz).all noB = true := by
      have := q.2
      rw [List.all_eq_true] at this ⊢
      intro x hx
      obtain ⟨y, hy, rfl⟩ := List.mem_map.mp hx
      exact frz_noB (this y hy)
    exact ⟨_, s2, dn E2 F1, [], Fs2, rfl, k2.trans (.dn fun a m => (f1.2 a m).1), r2.dn f1.2 (d1.alive), d2.tup q2, .nil⟩
  · trivial
theorem new_lst {p : Hh} {s : S} {E B : Pr} {us : List U} {ws : List W} {F : List Nat} (d : Ds (rd p s) E B us ws F) (q : us.all noB = true) (ev : ∀ n, rd p s n = none → E n) (nd : F.Nodup) : D (rd p (al s (.lst ws))) E B (.lst .o us) (.ref (nxt p s)) (nxt p s :: F) ∧ (nxt p s :: F).Nodup := by
  obtain ⟨T, d0, h1, h2⟩ := d.to0 q
  refine ⟨⟨T, [], .z (.own rd_new .lst (d0.ext ext_al)), fun a m => ?_, h2, no⟩, List.nodup_cons.mpr ⟨fun m => d.alive _ m rd_nxt, nd⟩⟩
  rcases List.mem_cons.mp m with rfl | m
  · exact ev _ rd_nxt
  · exact h1 a m
theorem sim_lst {a : VL → RU (List U)} {ma : Lo → S → R (List W)} (ha : SimA C md a ma) : SimE C md (eLst a) (CC.eLst C.p ma) := fun s l vl E K B Fs r => by
  refine (ha s l vl E K B Fs r).bind r.bk fun us v ws s2 E2 F1 Fs2 k2 r2 d1 f1 => ?_
  split
  · rename_i q
    rw [if_pos (by rw [← d1.len]; exact q.1)]
    obtain ⟨d, nd⟩ := new_lst d1 q.2 r2.ev f1.1
    exact fin_ext k2 r2 f1 ext_al none_al d nd fun a m => (List.mem_cons.mp m).elim (fun e => .inr (by rw [e]; exact rd_nxt)) .inl
  · trivial
theorem relB_fr {α β : Type} {C : Ct} {md : Bool} {c : Cf} {E K B : Pr} {l : Lo} {rel2 : Rl α β} {r : RU Bool} {r' : R Bool} {k : Bool → VL → RU α} {k' : Bool → S → R β} (hb : ∀ n, B n → K n) (h : Aft C md c E K B l relB r r')
    (hk : ∀ b v s E2 Fs, Keep c E K (rd C.p s) E2 → SL C md (rd C.p s) E2 K B v l Fs → Aft C md c E K B l rel2 (k b v) (k' b s)) : Aft C md c E K B l rel2 (r.bind k) (r'.bind k') :=
  h.bind hb fun b v b' s E2 F Fs k r q f => by
    obtain ⟨rfl, _⟩ := q
    exact hk b v s E2 Fs k r
theorem Aft.then {α β : Type} {c1 : Cf} {E1 : Pr} {rel : Rl α β} {r : RU α} {r' : R β} (k : Keep c E K c1 E1) (h : Aft C md c1 E1 K B l rel r r') : Aft C md c E K B l rel r r' := by
  cases r with
  | ok u v =>
    obtain ⟨w, s, E2, F, Fs, e, x, y⟩ := h
    exact ⟨w, s, E2, F, Fs, e, k.trans x, y⟩
  | exc q u v =>
    obtain ⟨w, s, E2, Fs, e, x, y⟩ := h
    exact ⟨w, s, E2, Fs, e, k.trans x, y⟩
  | bad => trivial
theorem sim_if {t : VL → RU Bool} {a b : VL → RU U} {mt : Lo → S → R Bool} {ma mb : Lo → S → R W} (ht : SimT C md t mt) (ha : SimE C md a ma) (hb : SimE C md b mb) : SimE C md (eIf t a b) (CC.eIf mt ma mb) := fun s l vl E K B Fs r =>
  relB_fr r.bk (ht s l vl E K B Fs r) fun c v s2 E2 Fs2 k2 r2 => by
    cases c with
    | true => exact (ha s2 l v E2 K B Fs2 r2).then k2
    | false => exact (hb s2 l v E2 K B Fs2 r2).then k2
theorem d_bl {c : Cf} {E B : Pr} {b : Bool} : D c E B (.bl b) (.bl b) [] := ⟨[], [], .z (.bl b), no, no, no⟩
theorem d_int {c : Cf} {E B : Pr} {b : Int} : D c E B (.int b) (.int b) [] := ⟨[], [], .z (.int b), no, no, no⟩
theorem d_str {c : Cf} {E B : Pr} {b : Str} : D c E B (.str b) (.str b) [] := ⟨[], [], .z (.str b), no, no, no⟩
theorem d_non {c : Cf} {E B : Pr} : D c E B .non .non [] := ⟨[], [], .z .non, no, no, no⟩
theorem D.is_bl {c : Cf} {E B : Pr} {b : Bool} {w : W} {F : List Nat} (h : D c E B (.bl b) w F) : w = .bl b := by
  obtain ⟨T, Z, d, _⟩ := h
  cases d with
  | z d => cases d with
    | bl => rfl
    | own _ k _ => cases k
    | shr _ k _ => cases k
  | b _ k _ => cases k
theorem val_bl {α β : Type} {rel2 : Rl α β} {r : RU U} {r' : R W} {k : Bool → VL → RU α} {k' : Bool → S → R β} (hb : ∀ n, B n → K n) (h : Aft C md c E K B l D r r')
    (hk : ∀ b v s E2 Fs, Keep c E K (rd C.p s) E2 → SL C md (rd C.p s) E2 K B v l Fs → Aft C md c E K B l rel2 (k b v) (k' b s)) : Aft C md c E K B l rel2 (r.bind fun x v => match x with | .bl b => k b v | _ => .bad) (r'.bind fun x s => match x with | .bl b => k' b s | _ => .bad) :=
  h.bind hb fun x v w s E2 F Fs k2 r2 d f => by
    cases x with
    | bl b =>
      obtain rfl := d.is_bl
      exact hk b v s E2 Fs k2 r2
    | _ => trivial
theorem sim_val {a : VL → RU U} {ma : Lo → S → R W} (ha : SimE C md a ma) : SimT C md (tVal a) (CC.tVal ma) := fun s l vl E K B Fs r =>
  val_bl (k := fun b v => .ok b v) (k' := fun b s => .ok b s) r.bk (ha s l vl E K B Fs r) fun b v s2 E2 Fs2 k2 r2 => ⟨b, s2, E2, [], Fs2, rfl, k2, r2, ⟨rfl, rfl⟩, .nil⟩
theorem sim_notV {a : VL → RU U} {ma : Lo → S → R W} (ha : SimE C md a ma) : SimE C md (eNotV a) (CC.eNotV ma) := fun s l vl E K B Fs r =>
  val_bl (k := fun b v => RU.ok (U.bl (!b)) v) (k' := fun b s => R.ok (W.bl (!b)) s) r.bk (ha s l vl E K B Fs r) fun b v s2 E2 Fs2 k2 r2 => ⟨_, s2, E2, [], Fs2, rfl, k2, r2, d_bl, .nil⟩
theorem sim_andV {a b : VL → RU U} {ma mb : Lo → S → R W} (ha : SimE C md a ma) (hb : SimE C md b mb) : SimE C md (eAndV a b) (CC.eAndV ma mb) := fun s l vl E K B Fs r => by
  refine (ha s l vl E K B Fs r).bind r.bk fun x v w s2 E2 F Fs2 k2 r2 d f => ?_
  cases x with
  | bl c =>
    obtain rfl := d.is_bl
    cases c with
    | true => exact (hb s2 l v E2 K B Fs2 r2).then k2
    | false => exact ⟨_, s2, E2, [], Fs2, rfl, k2, r2, d_bl, .nil⟩
  | _ => trivial
theorem sim_orV {a b : VL → RU U} {ma mb : Lo → S → R W} (ha : SimE C md a ma) (hb : SimE C md b mb) : SimE C md (eOrV a b) (CC.eOrV ma mb) := fun s l vl E K B Fs r => by
  refine (ha s l vl E K B Fs r).bind r.bk fun x v w s2 E2 F Fs2 k2 r2 d f => ?_
  cases x with
  | bl c =>
    obtain rfl := d.is_bl
    cases c with
    | false => exact (hb s2 l v E2 K B Fs2 r2).then k2
    | true => exact ⟨_, s2, E2, [], Fs2, rfl, k2, r2, d_bl, .nil⟩
  | _ => trivial
theorem sim_andT {a b : VL → RU Bool} {ma mb : Lo → S → R Bool} (ha : SimT C md a ma) (hb : SimT C md b mb) : SimT C md (tAndT a b) (CC.tAndT ma mb) := fun s l vl E K B Fs r =>
  relB_fr r.bk (ha s l vl E K B Fs r) fun c v s2 E2 Fs2 k2 r2 => by
    cases c with
    | true => exact (hb s2 l v E2 K B Fs2 r2).then k2
    | false => exact ⟨_, s2, E2, [], Fs2, rfl, k2, r2, ⟨rfl, rfl⟩, .nil⟩
theorem sim_orT {a b : VL → RU Bool} {ma mb : Lo → S → R Bool} (ha : SimT C md a ma) (hb : SimT C md b mb) : SimT C md (tOrT a b) (CC.tOrT ma mb) := fun s l vl E K B Fs r =>
  relB_fr r.bk (ha s l vl E K B Fs r) fun c v s2 E2 Fs2 k2 r2 => by
    cases c with
    | false => exact (hb s2 l v E2 K B Fs2 r2).then k2
    | true => exact ⟨_, s2, E2, [], Fs2, rfl, k2, r2, ⟨rfl, rfl⟩, .nil⟩
theorem sim_notT {a : VL → RU Bool} {ma : Lo → S → R Bool} (ha : SimT C md a ma) : SimT C md (tNotT a) (CC.tNotT ma) := fun s l vl E K B Fs r =>
  relB_fr r.bk (ha s l vl E K B Fs r) fun c v s2 E2 Fs2 k2 r2 => ⟨_, s2, E2, [], Fs2, rfl, k2, r2, ⟨rfl, rfl⟩, .nil⟩
theorem sim_true : SimT C md tTrue CC.tTrue := fun s l vl E K B Fs r => ⟨_, s, E, [], Fs, rfl, .rfl', r, ⟨rfl, rfl⟩, .nil⟩
theorem SL.lend (r : SL C true c E K B vl l Fs) : SL C false c E (fun n => K n ∨ ∃ i, n ∈ Fs i) (fun n => B n ∨ ∃ i, n ∈ Fs i) vl l Fs :=
  ⟨r.len, fun i u h => by
    obtain ⟨w, h1, h2⟩ := r.has i u h
    exact ⟨w, h1, h2.in fun a h => .inl h⟩, fun m => (nomatch m), fun _ i a h => .inr ⟨i, h⟩, r.ex, fun u w h => (r.ax u w h).in fun a h => .inl h, r.mpk, r.ev, fun n h => h.imp (r.bk n) id, fun n h => h.elim (r.ka n) fun ⟨i, h⟩ => r.ex i n h⟩
theorem SL.back {c1 : Cf} {E1 : Pr} (r : SL C true c E K B vl l Fs) (k : Keep c E (fun n => K n ∨ ∃ i, n ∈ Fs i) c1 E1) (ev : ∀ n, c1 n = none → E1 n) : SL C true c1 E1 K B vl l Fs :=
  ⟨r.len, fun i u h => by
    obtain ⟨w, h1, h2⟩ := r.has i u h
    exact ⟨w, h1, h2.mono k (fun n h => .inl (r.bk n h)) fun a m => .inr ⟨i, m⟩⟩, r.own, fun m => (nomatch m), fun i a h => ⟨k.al a (r.ex i a h).1, (k.kp a (.inr ⟨i, h⟩)).2 (r.ex i a h).2⟩, fun u w h => (r.ax u w h).mono k (fun n h => .inl (r.bk n h)) no, r.mpk, ev, r.bk, fun n h => ⟨k.al n (r.ka n h).1, (k.kp n (.inl h)).2 (r.ka n h).2⟩⟩
theorem sim_vB {a : VL → RU U} {ma : Lo → S → R W} (ha : SimE C false a ma) : SimE C true (vB a) ma := fun s l vl E K B Fs r => by
  have h := ha s l vl E _ _ Fs r.lend
  unfold vB
  cases e : a vl with
  | bad => trivial
  | exc k u v =>
    rw [e] at h
    obtain ⟨w, s2, E2, Fs2, e2, k2, r2, d⟩ := h
    exact ⟨w, s2, E2, Fs, e2, k2.weak fun n h => .inl h, r.back k2 r2.ev, d⟩
  | ok u v =>
    rw [e] at h
    obtain ⟨w, s2, E2, F, Fs2, e2, k2, r2, d, f⟩ := h
    show Aft C true _ E K B l D (if noB u then _ else _) _
    split
    · rename_i q
      exact ⟨w, s2, E2, F, Fs, e2, k2.weak fun n h => .inl h, r.back k2 r2.ev, d.noB q, f.1, fun a m => ⟨fun h => (f.2 a m).1 (.inl h), fun i h => (f.2 a m).1 (.inr ⟨i, h⟩)⟩⟩
    · trivial
theorem sim_tB {a : VL → RU Bool} {ma : Lo → S → R Bool} (ha : SimT C false a ma) : SimT C true (tB a) ma := fun s l vl E K B Fs r => by
  have h := ha s l vl E _ _ Fs r.lend
  unfold tB
  cases e : a vl with
  | bad => trivial
  | exc k u v =>
    rw [e] at h
    obtain ⟨w, s2, E2, Fs2, e2, k2, r2, d⟩ := h
    exact ⟨w, s2, E2, Fs, e2, k2.weak fun n h => .inl h, r.back k2 r2.ev, d⟩
  | ok u v =>
    rw [e] at h
    obtain ⟨w, s2, E2, F, Fs2, e2, k2, r2, d, f⟩ := h
    exact ⟨w, s2, E2, F, Fs, e2, k2.weak fun n h => .inl h, r.back k2 r2.ev, d, f.1, fun a m => (by rw [d.2] at m; cases m)⟩
end
end CV
set_option Elab.async false
set_option linter.all false
set_option maxRecDepth 100000
namespace CV
open PySem PySem.Spec PyProof.Rows L2
open CC (W Ob S Hh Lo R RS rd wr al nxt)
def nB : Pr := fun _ => False
def AftS (C : Ct) (c : Cf) (E K B : Pr) (r : RSU) (r' : RS) : Prop :=
  match r with
  | .nx v => ∃ l s E' Fs, r' = .nx l s ∧ Keep c E K (rd C.p s) E' ∧ SL C true (rd C.p s) E' K B v l Fs
  | .brk v => ∃ l s E' Fs, r' = .brk l s ∧ Keep c E K (rd C.p s) E' ∧ SL C true (rd C.p s) E' K B v l Fs
  | .ct v => ∃ l s E' Fs, r' = .ct l s ∧ Keep c E K (rd C.p s) E' ∧ SL C true (rd C.p s) E' K B v l Fs
  | .ret u v => ∃ w l s E' F Fs, r' = .ret w s ∧ Keep c E K (rd C.p s) E' ∧ SL C true (rd C.p s) E' K B v l Fs ∧ D (rd C.p s) E' nB u w F ∧ Fr F K Fs
  | .exc k u v => ∃ w l s E' Fs, r' = .exc k w l s ∧ Keep c E K (rd C.p s) E' ∧ SL C true (rd C.p s) E' K B v l Fs ∧ D (rd C.p s) E' nB u w []
  | .bad => True
def SimS (C : Ct) (vm : VL → RSU) (m : Lo → S → RS) : Prop :=
  ∀ s l vl E K B Fs, SL C true (rd C.p s) E K B vl l Fs → AftS C (rd C.p s) E K B (vm vl) (m l s)
def SimG (C : Ct) (g : U → VL → Option VL) (m : W → Lo → S → CC.OG) : Prop :=
  ∀ s l vl E K B Fs u w F, SL C true (rd C.p s) E K B vl l Fs → D (rd C.p s) E B u w F → Fr F K Fs → match g u vl with
    | some v => ∃ l' s' E' Fs', m w l s = some (l', s') ∧ Keep (rd C.p s) E K (rd C.p s') E' ∧ SL C true (rd C.p s') E' K B v l' Fs'
    | none => True
def SimGs (C : Ct) (g : List U → VL → Option VL) (m : List W → Lo → S → CC.OG) : Prop :=
  ∀ s l vl E K B Fs us ws, SL C true (rd C.p s) E K B vl l Fs → Ds (rd C.p s) E B us ws [] → match g us vl with
    | some v => ∃ l' s' E' Fs', m ws l s = some (l', s') ∧ Keep (rd C.p s) E K (rd C.p s') E' ∧ SL C true (rd C.p s') E' K B v l' Fs'
    | none => True
section
variable {C : Ct} {c c1 : Cf} {E E1 K B : Pr}
theorem AftS.then {r : RSU} {r' : RS} (k : Keep c E K c1 E1) (h : AftS C c1 E1 K B r r') : AftS C c E K B r r' := by
  cases r with
  | nx v => obtain ⟨l, s, E2, Fs, e, x, y⟩ := h; exact ⟨l, s, E2, Fs, e, k.trans x, y⟩
  | brk v => obtain ⟨l, s, E2, Fs, e, x, y⟩ := h; exact ⟨l, s, E2, Fs, e, k.trans x, y⟩
  | ct v => obtain ⟨l, s, E2, Fs, e, x, y⟩ := h; exact ⟨l, s, E2, Fs, e, k.trans x, y⟩
  | ret u v => obtain ⟨w, l, s, E2, F, Fs, e, x, y⟩ := h; exact ⟨w, l, s, E2, F, Fs, e, k.trans x, y⟩
  | exc q u v => obtain ⟨w, l, s, E2, Fs, e, x, y⟩ := h; exact ⟨w, l, s, E2, Fs, e, k.trans x, y⟩
  | bad => trivial
end
def RU.toS {α : Type} (r : RU α) (k : α → VL → RSU) : RSU := match r with
  | .ok a v => k a v
  | .exc c u v => .exc c u v
  | .bad => .bad
def sNx : VL → RSU := fun v => .nx v
def sSeq (m k : VL → RSU) : VL → RSU := fun v => match m v with
  | .nx v1 => fV v1 k
  | r => r
def sEx (me : VL → RU U) : VL → RSU := fun v => (me v).toS fun _ v1 => .nx v1
def sRet (me : VL → RU U) : VL → RSU := fun v => (me v).toS fun u v1 => if noB u then .ret u v1 else .bad
def sRetN : VL → RSU := fun v => .ret .non v
def sBrk : VL → RSU := fun v => .brk v
def sCt : VL → RSU := fun v => .ct v
def nxO : Option VL → RSU
  | some v => .nx v
  | none => .bad
def sAsg (g : U → VL → Option VL) (me : VL → RU U) : VL → RSU := fun v => (me v).toS fun u v1 => nxO (g u v1)
def gNm (i : Nat) : U → VL → Option VL := fun u v => some (v.set i (some u))
def gNf (i : Nat) : U → VL → Option VL := fun u v => some (v.set i (some (frz u)))
def sIf (mt : VL → RU Bool) (ma mb : VL → RSU) : VL → RSU := fun v => match mt v with
  | .ok true v1 => ma v1
  | .ok false v1 => mb v1
  | .exc c u v1 => .exc c u v1
  | .bad => .bad
def sAug (f : U → U → Option U) (i : Nat) (me : VL → RU U) : VL → RSU := fun v => (eVarN i v).toS fun x v0 => (me v0).toS fun y v1 => match f x y with
  | some z => .nx (v1.set i (some z))
  | none => .bad
def sPar2 (g1 g2 : U → VL → Option VL) (mr : VL → RU (List U)) : VL → RSU := fun v => match mr v with
  | .ok [x, y] v1 => (match g1 x v1 with
    | some v2 => nxO (g2 y v2)
    | none => .bad)
  | .exc c u v1 => .exc c u v1
  | _ => .bad
def sPar3 (g1 g2 g3 : U → VL → Option VL) (mr : VL → RU (List U)) : VL → RSU := fun v => match mr v with
  | .ok [x, y, z] v1 => (match g1 x v1 with
    | some v2 => (match g2 y v2 with
      | some v3 => nxO (g3 z v3)
      | none => .bad)
    | none => .bad)
  | .exc c u v1 => .exc c u v1
  | _ => .bad
def gsNil : List U → VL → Option VL := fun us v => match us with
  | [] => some v
  | _ => none
def gsCons (g : U → VL → Option VL) (r : List U → VL → Option VL) : List U → VL → Option VL := fun us v => match us with
  | u :: us' => (match g u v with
    | some v1 => r us' v1
    | none => none)
  | _ => none
def gTupT (n : Nat) (r : List U → VL → Option VL) : U → VL → Option VL := fun u v => match u with
  | .tup us => if us.length = n then r us v else none
  | _ => none
def sRaise (k : Nat) (me : VL → RU U) : VL → RSU := fun v => (me v).toS fun u v1 => if noB u then .exc k (frz u) v1 else .bad
section
variable {C : Ct} {c c1 : Cf} {E E1 K K1 B : Pr} {l : Lo} {vl : VL} {s : S} {Fs : Nat → List Nat}
def RtoS {α : Type} (l : Lo) (r : R α) (k : α → S → RS) : RS := match r with
  | .ok w s => k w s
  | .exc c w s => .exc c w l s
  | .bad => .bad
theorem AftS.val {α α' : Type} {rel : Rl α' α} {r : RU α'} {r' : R α} {k : α' → VL → RSU} {k' : α → S → RS} (h : Aft C true c E K B l rel r r')
    (hk : ∀ u v w s E2 F Fs, Keep c E K (rd C.p s) E2 → SL C true (rd C.p s) E2 K B v l Fs → rel (rd C.p s) E2 B u w F → Fr F K Fs → AftS C c E K B (k u v) (k' w s)) : AftS C c E K B (r.toS k) (RtoS l r' k') := by
  cases r with
  | ok u v =>
    obtain ⟨w, s, E2, F, Fs, e, x, y, z, f⟩ := h
    subst e
    exact hk u v w s E2 F Fs x y z f
  | exc q u v =>
    obtain ⟨w, s, E2, Fs, e, x, y, z⟩ := h
    subst e
    exact ⟨w, l, s, E2, Fs, rfl, x, y, z⟩
  | bad => trivial
theorem toS_eq {l : Lo} {r : R W} {k : W → S → RS} : CC.R.toS l r k = RtoS l r k := by cases r <;> rfl
theorem sim_nx : SimS C sNx CC.sNx := fun s l vl E K B Fs r => ⟨l, s, E, Fs, rfl, .rfl', r⟩
theorem sim_seq {a b : VL → RSU} {ma mb : Lo → S → RS} (ha : SimS C a ma) (hb : SimS C b mb) : SimS C (sSeq a b) (CC.sSeq ma mb) := fun s l vl E K B Fs r => by
  have h := ha s l vl E K B Fs r
  unfold sSeq CC.sSeq
  cases e : a vl with
  | nx v =>
    rw [e] at h
    obtain ⟨l1, s1, E1, Fs1, e2, k1, r1⟩ := h
    rw [e2]
    dsimp only
    rw [fV_eq]
    exact (hb s1 l1 v E1 K B Fs1 r1).then k1
  | brk v => rw [e] at h; obtain ⟨l1, s1, E1, Fs1, e2, h⟩ := h; rw [e2]; exact ⟨l1, s1, E1, Fs1, rfl, h⟩
  | ct v => rw [e] at h; obtain ⟨l1, s1, E1, Fs1, e2, h⟩ := h; rw [e2]; exact ⟨l1, s1, E1, Fs1, rfl, h⟩
  | ret u v => rw [e] at h; obtain ⟨w, l1, s1, E1, F, Fs1, e2, h⟩ := h; rw [e2]; exact ⟨w, l1, s1, E1, F, Fs1, rfl, h⟩
  | exc k u v => rw [e] at h; obtain ⟨w, l1, s1, E1, Fs1, e2, h⟩ := h; rw [e2]; exact ⟨w, l1, s1, E1, Fs1, rfl, h⟩
  | bad => trivial
theorem sim_ex {a : VL → RU U} {ma : Lo → S → R W} (ha : SimE C true a ma) : SimS C (sEx a) (CC.sEx ma) := fun s l vl E K B Fs r => by
  unfold CC.sEx
  rw [toS_eq]
  exact AftS.val (rel := D) (ha s l vl E K B Fs r) fun u v w s2 E2 F Fs2 k2 r2 d f => ⟨l, s2, E2, Fs2, rfl, k2, r2⟩
theorem sim_ret {a : VL → RU U} {ma : Lo → S → R W} (ha : SimE C true a ma) : SimS C (sRet a) (CC.sRet ma) := fun s l vl E K B Fs r => by
  unfold CC.sRet
  rw [toS_eq]
  refine AftS.val (rel := D) (ha s l vl E K B Fs r) fun u v w s2 E2 F Fs2 k2 r2 d f => ?_
  split
  · rename_i q
    exact ⟨w, l, s2, E2, F, Fs2, rfl, k2, r2, d.noB q, f⟩
  · trivial
theorem sim_sif {t : VL → RU Bool} {a b : VL → RSU} {mt : Lo → S → R Bool} {ma mb : Lo → S → RS} (ht : SimT C true t mt) (ha : SimS C a ma) (hb : SimS C b mb) : SimS C (sIf t a b) (CC.sIf mt ma mb) := fun s l vl E K B Fs r => by
  have h := ht s l vl E K B Fs r
  unfold sIf CC.sIf
  cases e : t vl with
  | ok q v =>
    rw [e] at h
    obtain ⟨w, s2, E2, F, Fs2, e2, k2, r2, d, f⟩ := h
    obtain ⟨rfl, _⟩ := d
    rw [e2]
    cases q with
    | true => exact (ha s2 l v E2 K B Fs2 r2).then k2
    | false => exact (hb s2 l v E2 K B Fs2 r2).then k2
  | exc k u v =>
    rw [e] at h
    obtain ⟨w, s2, E2, Fs2, e2, x, y, z⟩ := h
    rw [e2]
    exact ⟨w, l, s2, E2, Fs2, rfl, x, y, z⟩
  | bad => trivial
theorem sim_nm (i : Nat) (hm : C.mp = none ∨ i ≠ C.mi) : SimG C (gNm i) (CC.gNm i) := fun s l vl E K B Fs u w F r d f =>
  ⟨l.set i (some w), s, E, upF Fs i F, rfl, .rfl', r.put i (some u) w _ (by simp) (fun j h => List.getElem?_set_ne (Ne.symm h)) (fun u' e hi => by cases e; exact ⟨List.getElem?_set_self (by rw [← r.len]; exact hi), d⟩)
    (fun w' e => by
      rcases hm with hm | hm
      · rw [hm] at e; cases e
      · rw [List.getElem?_set_ne hm]; exact r.mpk w' e) f.1 fun a m => ⟨d.alive a m, d.own a m, fun _ => ⟨(f.2 a m).1, fun j _ => (f.2 a m).2 j⟩, fun z => nomatch z⟩⟩
theorem noB_frz {u : U} (h : noB u = false) : frz u = u := by
  cases u with
  | lst z us => cases z <;> first | rfl | cases h
  | dct z us => cases z <;> first | rfl | cases h
  | dtt z us => cases z <;> first | rfl | cases h
  | ins z n us => cases z <;> first | rfl | cases h
  | _ => rfl
theorem D.frz' {c : Cf} {E B : Pr} {u : U} {w : W} {F : List Nat} (d : D c E B u w F) : D c (dn E F) B (CV.frz u) w [] := by
  cases q : CV.noB u with
  | true => exact d.frz q
  | false =>
    rw [noB_frz q]
    have : F = [] := d.noO (by
      cases u with
      | lst z us => cases z <;> first | rfl | cases q
      | dct z us => cases z <;> first | rfl | cases q
      | dtt z us => cases z <;> first | rfl | cases q
      | ins z n us => cases z <;> first | rfl | cases q
      | _ => rfl)
    subst this
    exact d.less no
theorem sim_nf (i : Nat) (hm : C.mp = none ∨ i ≠ C.mi) : SimG C (gNf i) (CC.gNm i) := fun s l vl E K B Fs u w F r d f => by
  have r2 := r.dn f.2 d.alive
  obtain ⟨l', s', E', Fs', e, k, r3⟩ := sim_nm i hm s l vl _ K B Fs (frz u) w [] r2 d.frz' .nil
  exact ⟨l', s', E', Fs', e, (Keep.dn fun a m => (f.2 a m).1).trans k, r3⟩
theorem Ds.nil_of {us : List U} {ws : List W} {F : List Nat} (d : Ds c E B us ws F) : F = [] → (us = [] ∧ ws = []) ∨ ∃ u w us' ws', us = u :: us' ∧ ws = w :: ws' ∧ D c E B u w [] ∧ Ds c E B us' ws' [] := fun h => by
  cases d with
  | nil => exact .inl ⟨rfl, rfl⟩
  | @cons u w us ws F F' d r =>
    have := List.append_eq_nil_iff.mp h
    rw [this.1] at d
    rw [this.2] at r
    exact .inr ⟨u, w, us, ws, rfl, rfl, d, r⟩
theorem sim_gnil : SimGs C gsNil CC.gsNil := fun s l vl E K B Fs us ws r d => by
  rcases d.nil_of rfl with ⟨rfl, rfl⟩ | ⟨u, w, us', ws', rfl, rfl, d1, d2⟩
  · exact ⟨l, s, E, Fs, rfl, .rfl', r⟩
  · trivial
theorem sim_gcons {g : U → VL → Option VL} {m : W → Lo → S → CC.OG} {gs : List U → VL → Option VL} {ms : List W → Lo → S → CC.OG} (h1 : SimG C g m) (h2 : SimGs C gs ms) : SimGs C (gsCons g gs) (CC.gsCons m ms) := fun s l vl E K B Fs us ws r d => by
  rcases d.nil_of rfl with ⟨rfl, rfl⟩ | ⟨u, w, us', ws', rfl, rfl, d1, d2⟩
  · trivial
  · have q := h1 s l vl E K B Fs u w [] r d1 .nil
    unfold gsCons CC.gsCons
    dsimp only
    cases e : g u vl with
    | none => trivial
    | some v =>
      rw [e] at q
      obtain ⟨l1, s1, E1, Fs1, e1, k1, r1⟩ := q
      rw [e1]
      have q2 := h2 s1 l1 v E1 K B Fs1 us' ws' r1 (d2.mono k1 r.bk no)
      dsimp only
      cases e2 : gs us' v with
      | none => trivial
      | some v2 =>
        rw [e2] at q2
        obtain ⟨l2, s2, E2, Fs2, e3, k2, r2⟩ := q2
        exact ⟨l2, s2, E2, Fs2, e3, k1.trans k2, r2⟩
theorem D.is_tup {us : List U} {w : W} {F : List Nat} (h : D c E B (.tup us) w F) : F = [] ∧ ∃ ws, w = .tup ws ∧ Ds c E B us ws [] := by
  obtain ⟨T, Z, d, h1, h2, h3⟩ := h
  cases d with
  | z d => cases d with
    | tup r => exact ⟨rfl, _, rfl, r.to no h2⟩
    | own _ k _ => cases k
    | shr _ k _ => cases k
  | b _ k _ => cases k
theorem sim_gtup {n : Nat} {gs : List U → VL → Option VL} {ms : List W → Lo → S → CC.OG} (h : SimGs C gs ms) : SimG C (gTupT n gs) (CC.gTupT n ms) := fun s l vl E K B Fs u w F r d f => by
  cases u with
  | tup us =>
    obtain ⟨rfl, ws, rfl, ds⟩ := d.is_tup
    unfold gTupT CC.gTupT
    dsimp only
    rw [← ds.len]
    by_cases q : us.length = n
    · rw [if_pos q, if_pos q]
      exact h s l vl E K B Fs us ws r ds
    · rw [if_neg q]
      trivial
  | _ => trivial
theorem sim_asg {g : U → VL → Option VL} {m : W → Lo → S → CC.OG} {a : VL → RU U} {ma : Lo → S → R W} (hg : SimG C g m) (ha : SimE C true a ma) : SimS C (sAsg g a) (CC.sAsg m ma) := fun s l vl E K B Fs r => by
  unfold CC.sAsg
  rw [toS_eq]
  refine AftS.val (rel := D) (ha s l vl E K B Fs r) fun u v w s2 E2 F Fs2 k2 r2 d f => ?_
  have q := hg s2 l v E2 K B Fs2 u w F r2 d f
  cases e : g u v with
  | none => trivial
  | some v2 =>
    rw [e] at q
    obtain ⟨l3, s3, E3, Fs3, e3, k3, r3⟩ := q
    rw [e3]
    exact ⟨l3, s3, E3, Fs3, rfl, k2.trans k3, r3⟩
theorem Ds.inv {u : U} {w : W} {us : List U} {ws : List W} {F : List Nat} (h : Ds c E B (u :: us) (w :: ws) F) : ∃ F1 F2, F = F1 ++ F2 ∧ D c E B u w F1 ∧ Ds c E B us ws F2 := by
  cases h with
  | cons d r => exact ⟨_, _, rfl, d, r⟩
theorem Ds.inv0 {F : List Nat} (h : Ds c E B [] [] F) : F = [] := by
  cases h; rfl
theorem nm_of {i : Nat} {g : U → VL → Option VL} (h : SimG C g (CC.gNm i)) {s : S} {l : Lo} {vl v : VL} {u : U} {w : W} {F : List Nat} (r : SL C true (rd C.p s) E K B vl l Fs) (d : D (rd C.p s) E B u w F) (f : Fr F K Fs) (e : g u vl = some v) : ∃ E' Fs', Keep (rd C.p s) E K (rd C.p s) E' ∧ SL C true (rd C.p s) E' K B v (l.set i (some w)) Fs' := by
  have q := h s l vl E K B Fs u w F r d f
  rw [e] at q
  obtain ⟨l', s', E', Fs', e2, k, r2⟩ := q
  cases e2
  exact ⟨E', Fs', k, r2⟩
theorem nm_rest {i : Nat} {g : U → VL → Option VL} (h : SimG C g (CC.gNm i)) {s : S} {l : Lo} {vl v : VL} {u : U} {w : W} {F : List Nat} {us : List U} {ws : List W} {F2 : List Nat} (r : SL C true (rd C.p s) E K B vl l Fs) (hb : ∀ n, B n → K n) (d : D (rd C.p s) E B u w F) (d2 : Ds (rd C.p s) E B us ws F2) (f : Fr (F ++ F2) K Fs) (e : g u vl = some v) :
    ∃ E' Fs', Keep (rd C.p s) E K (rd C.p s) E' ∧ SL C true (rd C.p s) E' K B v (l.set i (some w)) Fs' ∧ Ds (rd C.p s) E' B us ws F2 ∧ Fr F2 K Fs' := by
  have nd := List.nodup_append.mp f.1
  have f2 : Fr F2 K Fs := ⟨nd.2.1, fun a m => f.2 a (List.mem_append_right _ m)⟩
  obtain ⟨E', Fs', k, r2⟩ := nm_of h (r.grow f2 (fun a m => ⟨d2.alive a m, d2.own a m⟩)) d ⟨nd.1, fun a m => ⟨fun z => z.elim (f.2 a (List.mem_append_left _ m)).1 fun z => nd.2.2 a m a z rfl, (f.2 a (List.mem_append_left _ m)).2⟩⟩ e
  exact ⟨E', Fs', k.weak fun n h => .inl h, r2.weak (fun n h => .inl h) hb, d2.mono k (fun n h => .inl (hb n h)) fun a m => .inr m, nd.2.1, fun a m => ⟨(f2.2 a m).1, fun j => r2.sep hb m (f2.2 a m).1 j⟩⟩
theorem sim_par2 {i j : Nat} {g1 g2 : U → VL → Option VL} {a : VL → RU (List U)} {ma : Lo → S → R (List W)} (h1 : SimG C g1 (CC.gNm i)) (h2 : SimG C g2 (CC.gNm j)) (ha : SimA C true a ma) : SimS C (sPar2 g1 g2 a) (CC.sPar2 i j ma) := fun s l vl E K B Fs r => by
  have h := ha s l vl E K B Fs r
  unfold sPar2 CC.sPar2
  cases e : a vl with
  | bad => trivial
  | exc k u v =>
    rw [e] at h
    obtain ⟨w, s2, E2, Fs2, e2, x, y, z⟩ := h
    rw [e2]
    exact ⟨w, l, s2, E2, Fs2, rfl, x, y, z⟩
  | ok us v =>
    rw [e] at h
    obtain ⟨ws, s2, E2, F, Fs2, e2, k2, r2, d, f⟩ := h
    rw [e2]
    match us, ws, F, d, f with
    | [x, y], _, _, .cons d1 (.cons d2 .nil), f =>
      dsimp only
      cases e3 : g1 x v with
      | none => trivial
      | some v1 =>
        obtain ⟨E3, Fs3, k3, r3, ds, f3⟩ := nm_rest h1 r2 r.bk d1 (.cons d2 .nil) f e3
        dsimp only
        cases e4 : g2 y v1 with
        | none => trivial
        | some v2 =>
            obtain ⟨A1, A2, e5, d2, q⟩ := ds.inv
            obtain rfl := q.inv0
            rw [e5, List.append_nil] at f3
            obtain ⟨E4, Fs4, k4, r4⟩ := nm_of h2 r3 d2 f3 e4
            exact ⟨_, s2, E4, Fs4, rfl, (k2.trans k3).trans k4, r4⟩
    | [], _, _, _, _ => trivial
    | [_], _, _, _, _ => trivial
    | _ :: _ :: _ :: _, _, _, _, _ => trivial
end
end CV
set_option Elab.async false
set_option linter.all false
set_option maxRecDepth 100000
namespace CV
open PySem PySem.Spec PyProof.Rows L2
open CC (W Ob S Hh Lo R RS rd wr al nxt ItD)
section
variable {c : Cf} {E B : Pr} {u : U} {w : W} {us : List U} {ws : List W} {F T : List Nat}
theorem D0s.frzd (h : D0s c us ws F T) (h1 : ∀ a ∈ F, ¬ E a) (h2 : ∀ a ∈ T, ¬ E a) : Ds c E B (us.map frz) ws [] := by
  induction us generalizing ws F T with
  | nil => cases h; exact .nil
  | cons u us ih =>
    cases h with
    | cons d r =>
      obtain ⟨T', d', t⟩ := d.frz
      exact .cons (F := []) ⟨T', [], .z d', no, fun a m => (t a m).elim (fun m => h1 a (List.mem_append_left _ m)) fun m => h2 a (List.mem_append_left _ m), no⟩ (ih r (fun a m => h1 a (List.mem_append_right _ m)) fun a m => h2 a (List.mem_append_right _ m))
theorem D0s.bord (h : D0s c us ws F T) (h1 : ∀ a ∈ F, B a) (h2 : ∀ a ∈ T, ¬ E a) : Ds c E B (us.map bor) ws [] := by
  induction us generalizing ws F T with
  | nil => cases h; exact .nil
  | cons u us ih =>
    cases h with
    | cons d r =>
      obtain ⟨T', Z', d', t, z⟩ := d.bor
      exact .cons (F := []) ⟨T', Z', d', no, fun a m => h2 a (List.mem_append_left _ (t a m)), fun a m => h1 a (List.mem_append_left _ (z a m))⟩ (ih r (fun a m => h1 a (List.mem_append_right _ m)) fun a m => h2 a (List.mem_append_right _ m))
def Fg (E B : Pr) : Fl → Nat → List Nat → List Nat → List Nat → Prop
  | .o, n, F0, T0, F => F = n :: F0 ∧ (∀ a ∈ n :: F0, E a) ∧ ∀ a ∈ T0, ¬ E a
  | .s, n, F0, T0, F => F = [] ∧ ¬ E n ∧ (∀ a ∈ F0, ¬ E a) ∧ ∀ a ∈ T0, ¬ E a
  | .b, n, F0, T0, F => F = [] ∧ (∀ a ∈ n :: F0, B a) ∧ ∀ a ∈ T0, ¬ E a
def Nd (c : Cf) (E B : Pr) (z : Fl) (u : U) (us : List U) (w : W) (F : List Nat) : Prop := ∃ n ob ws F0 T0, w = .ref n ∧ c n = some ob ∧ Sh z u us ob ws ∧ D0s c us ws F0 T0 ∧ Fg E B z n F0 T0 F
theorem D.node (h : D c E B u w F) : u = .non ∨ (∃ b, u = .bl b) ∨ (∃ i, u = .int i) ∨ (∃ z, u = .str z) ∨ (∃ us, u = .tup us) ∨ ∃ z us, Nd c E B z u us w F := by
  obtain ⟨T, Z, d, h1, h2, h3⟩ := h
  cases d with
  | z d => cases d with
    | non => exact .inl rfl
    | bl b => exact .inr (.inl ⟨b, rfl⟩)
    | int i => exact .inr (.inr (.inl ⟨i, rfl⟩))
    | str z => exact .inr (.inr (.inr (.inl ⟨z, rfl⟩)))
    | tup r => exact .inr (.inr (.inr (.inr (.inl ⟨_, rfl⟩))))
    | own e k r => exact .inr (.inr (.inr (.inr (.inr ⟨.o, _, _, _, _, _, _, rfl, e, k, r, rfl, h1, h2⟩))))
    | shr e k r => exact .inr (.inr (.inr (.inr (.inr ⟨.s, _, _, _, _, _, _, rfl, e, k, r, rfl, h2 _ (List.mem_cons_self ..), fun a m => h2 a (List.mem_cons_of_mem _ (List.mem_append_left _ m)), fun a m => h2 a (List.mem_cons_of_mem _ (List.mem_append_right _ m))⟩))))
  | b e k r => exact .inr (.inr (.inr (.inr (.inr ⟨.b, _, _, _, _, _, _, rfl, e, k, r, rfl, h3, h2⟩))))
theorem D.lst {z : Fl} (h : D c E B (.lst z us) w F) : ∃ n ws F0 T0, w = .ref n ∧ c n = some (.lst ws) ∧ D0s c us ws F0 T0 ∧ Fg E B z n F0 T0 F := by
  rcases h.node with h | ⟨_, h⟩ | ⟨_, h⟩ | ⟨_, h⟩ | ⟨_, h⟩ | ⟨z', us', n, ob, ws, F0, T0, rfl, e, k, r, f⟩ <;> first | cases h | skip
  cases k
  exact ⟨n, ws, F0, T0, rfl, e, r, f⟩
theorem D.frz_ {ns : List Int} (h : D c E B (.frz ns) w F) : F = [] ∧ ∃ n, w = .ref n ∧ c n = some (.frz ns) ∧ ¬ E n := by
  rcases h.node with h | ⟨_, h⟩ | ⟨_, h⟩ | ⟨_, h⟩ | ⟨_, h⟩ | ⟨z', us', n, ob, ws, F0, T0, rfl, e, k, r, f⟩ <;> first | cases h | skip
  cases k
  exact ⟨f.1, n, rfl, e, f.2.1⟩
theorem D.is_int {i : Int} (h : D c E B (.int i) w F) : w = .int i := by
  obtain ⟨T, Z, d, _⟩ := h
  cases d with
  | z d => cases d with
    | int => rfl
    | own _ k _ => cases k
    | shr _ k _ => cases k
  | b _ k _ => cases k
theorem D.is_str {i : Str} (h : D c E B (.str i) w F) : w = .str i := by
  obtain ⟨T, Z, d, _⟩ := h
  cases d with
  | z d => cases d with
    | str => rfl
    | own _ k _ => cases k
    | shr _ k _ => cases k
  | b _ k _ => cases k
theorem D.is_non (h : D c E B .non w F) : w = .non := by
  obtain ⟨T, Z, d, _⟩ := h
  cases d with
  | z d => cases d with
    | non => rfl
    | own _ k _ => cases k
    | shr _ k _ => cases k
  | b _ k _ => cases k
theorem ds_ints {ns : List Int} : Ds c E B (ns.map U.int) (ns.map W.int) [] := by
  induction ns with
  | nil => exact .nil
  | cons n ns ih => exact .cons (F := []) d_int ih
end
def RIt : Rl (List U) ItD := fun c E B us d F => F = [] ∧ ∃ (ws : List W) (Sx : List Nat), Ds c E B us ws [] ∧ (∀ a ∈ Sx, c a ≠ none ∧ (¬ E a ∨ B a)) ∧ ∀ p s, (∀ a ∈ Sx, rd p s a = c a) → (∀ i : Nat, d.next p s i = some ws[i]?) ∧ ws.length ≤ d.cnt p s
theorem Keep.at {c c' : Cf} {E E' K : Pr} {B : Pr} (x : Keep c E K c' E') (hb : ∀ n, B n → K n) {a : Nat} (h : c a ≠ none ∧ (¬ E a ∨ B a)) : c' a = c a ∧ (¬ E' a ∨ B a) := by
  rcases h.2 with e | b
  · cases q : c a with
    | none => exact absurd q h.1
    | some ob => exact ⟨(x.sh a ob q e).1, .inl (x.sh a ob q e).2⟩
  · exact ⟨(x.kp a (hb a b)).1, .inr b⟩
def rngU (lo c : Int) : Nat → List U
  | 0 => []
  | n + 1 => .int lo :: rngU (lo + c) c n
def itemsU : U → Option (List U)
  | .lst .b us => some (us.map bor)
  | .lst _ us => some (us.map frz)
  | .tup us => some us
  | .frz ns => some (ns.map U.int)
  | _ => none
def iSeq (ma : VL → RU U) : VL → RU (List U) := fun v => (ma v).bind fun u v1 => match itemsU u with
  | some us => .ok us v1
  | none => .bad
def iRange1 (ma : VL → RU U) : VL → RU (List U) := fun v => (ma v).bind fun u v1 => match u with
  | .int j => if CC.b62 j then .ok (rngU 0 1 j.toNat) v1 else .bad
  | _ => .bad
def enU : Nat → List U → List U
  | _, [] => []
  | i, u :: r => .tup [.int (i : Nat), u] :: enU (i + 1) r
def iEnm (ma : VL → RU U) : VL → RU (List U) := fun v => (ma v).bind fun u v1 => match itemsU u with
  | some us => if us.all noB then .ok (enU 0 us) v1 else .bad
  | none => .bad
def forL (g : U → VL → Option VL) (b : VL → RSU) : List U → VL → RSU
  | [], v => .nx v
  | u :: r, v => match g u v with
    | none => .bad
    | some v1 => match b v1 with
      | .nx v2 => fV v2 (forL g b r)
      | .ct v2 => fV v2 (forL g b r)
      | .brk v2 => .nx v2
      | q => q
def sFor (g : U → VL → Option VL) (mi : VL → RU (List U)) (b : VL → RSU) : VL → RSU := fun v => (mi v).toS fun us v1 => forL g b us v1
section
variable {C : Ct} {md : Bool} {c c1 : Cf} {E E1 K K1 B : Pr} {l : Lo} {vl : VL} {s : S} {Fs : Nat → List Nat}
theorem items_ok {p : Hh} {u : U} {w : W} {F : List Nat} {us : List U} (d : D (rd p s) E B u w F) (h : itemsU u = some us) : ∃ ws, Ds (rd p s) (dn E F) B us ws [] ∧
    ((∃ n, w = .ref n ∧ CC.cellItems p s n = some ws ∧ rd p s n ≠ none ∧ (¬ dn E F n ∨ B n)) ∨ w = .tup ws) := by
  cases u with
  | tup us' =>
    cases h
    obtain ⟨rfl, ws, rfl, ds⟩ := d.is_tup
    refine ⟨ws, ?_, .inr rfl⟩
    obtain ⟨f0, ws', e, ds⟩ := D.is_tup (d.frz' : D _ _ _ (.tup us) _ _)
    cases e
    exact ds
  | frz ns =>
    cases h
    obtain ⟨rfl, n, rfl, e, ne⟩ := d.frz_
    exact ⟨ns.map W.int, ds_ints, .inl ⟨n, rfl, by unfold CC.cellItems; rw [e], by rw [e]; simp, .inl fun z => ne z.1⟩⟩
  | lst z us' =>
    obtain ⟨n, ws, F0, T0, rfl, e, r, f⟩ := d.lst
    refine ⟨ws, ?_, .inl ⟨n, rfl, by unfold CC.cellItems; rw [e], by rw [e]; simp, ?_⟩⟩
    · cases z with
      | o =>
        cases h
        obtain ⟨rfl, _, f2⟩ := f
        exact r.frzd (fun a m z => z.2 (List.mem_cons_of_mem _ m)) fun a m z => f2 a m z.1
      | s =>
        cases h
        obtain ⟨rfl, f1, f2, f3⟩ := f
        exact r.frzd (fun a m z => f2 a m z.1) fun a m z => f3 a m z.1
      | b =>
        cases h
        obtain ⟨rfl, f1, f2⟩ := f
        exact r.bord (fun a m => f1 a (List.mem_cons_of_mem _ m)) fun a m z => f2 a m z.1
    · cases z with
      | o => exact .inl fun z => z.2 (by rw [f.1]; exact List.mem_cons_self ..)
      | s => exact .inl fun z => f.2.1 z.1
      | b => exact .inr (f.2.1 n (List.mem_cons_self ..))
  | _ => cases h
theorem sim_seqI {a : VL → RU U} {ma : Lo → S → R W} (ha : SimE C md a ma) : Sim C md RIt (iSeq a) (CC.iSeq ma C.p) := fun s l vl E K B Fs r => by
  refine (ha s l vl E K B Fs r).bind r.bk fun u v w s2 E2 F Fs2 k2 r2 d f => ?_
  cases e : itemsU u with
  | none => trivial
  | some us =>
    obtain ⟨ws, ds, h⟩ := items_ok d e
    have k3 := k2.trans (Keep.dn fun a m => (f.2 a m).1)
    have r3 := r2.dn f.2 d.alive
    rcases h with ⟨n, rfl, e2, e3, e4⟩ | rfl
    · dsimp only
      rw [e2]
      refine ⟨_, s2, _, [], Fs2, rfl, k3, r3, ⟨rfl, ws, [n], ds, fun a m => ?_, fun p' s' h => ?_⟩, .nil⟩
      · rw [List.mem_singleton.mp m]; exact ⟨e3, e4⟩
      · have e5 : CC.cellItems p' s' n = some ws := by
          unfold CC.cellItems at e2 ⊢
          rw [h n (by simp)]; exact e2
        refine ⟨fun i => ?_, ?_⟩
        · show (CC.cellItems p' s' n).map (fun ws => ws[i]?) = _
          rw [e5]; rfl
        · show ws.length ≤ CC.cellLen p' s' n
          unfold CC.cellLen
          rw [e5]; exact Nat.le_refl _
    · exact ⟨_, s2, _, [], Fs2, rfl, k3, r3, ⟨rfl, ws, [], ds, no, fun p' s' h => ⟨fun i => rfl, Nat.le_refl _⟩⟩, .nil⟩
theorem rng_get {lo c : Int} : ∀ {n i : Nat}, (CC.rngW lo c n)[i]? = if i < n then some (.int (lo + (i : Nat) * c)) else none
  | 0, i => by simp [CC.rngW]
  | n + 1, 0 => by simp [CC.rngW]
  | n + 1, i + 1 => by
    simp only [CC.rngW, List.getElem?_cons_succ]
    rw [rng_get]
    by_cases h : i < n
    · rw [if_pos h, if_pos (by omega)]
      congr 2
      have : ((i + 1 : Nat) : Int) = (i : Int) + 1 := by omega
      rw [this, Int.add_mul, Int.one_mul]
      omega
    · rw [if_neg h, if_neg (by omega)]
theorem rng_len {lo c : Int} : ∀ {n : Nat}, (CC.rngW lo c n).length = n
  | 0 => rfl
  | n + 1 => by simp [CC.rngW, rng_len]
theorem rng_ds {lo c : Int} {c' : Cf} : ∀ {n : Nat}, Ds c' E B (rngU lo c n) (CC.rngW lo c n) []
  | 0 => .nil
  | n + 1 => .cons (F := []) d_int rng_ds
theorem rng_rit {lo c : Int} {n : Nat} {c' : Cf} : RIt c' E B (rngU lo c n) (.rng lo c n) [] :=
  ⟨rfl, CC.rngW lo c n, [], rng_ds, no, fun p' s' h => ⟨fun i => by rw [rng_get]; rfl, by rw [rng_len]; exact Nat.le_refl _⟩⟩
def enW : Nat → List W → List W
  | _, [] => []
  | i, u :: r => .tup [.int (i : Nat), u] :: enW (i + 1) r
theorem enW_get {ws : List W} : ∀ {k i : Nat}, (enW k ws)[i]? = ws[i]?.map fun w => .tup [.int ((k + i : Nat) : Int), w] := by
  induction ws with
  | nil => intro k i; simp [enW]
  | cons w ws ih =>
    intro k i
    cases i with
    | zero => simp [enW]
    | succ i =>
      simp only [enW, List.getElem?_cons_succ]
      rw [ih]
      have : k + 1 + i = k + (i + 1) := by omega
      rw [this]
theorem enW_len {ws : List W} : ∀ {k : Nat}, (enW k ws).length = ws.length := by
  induction ws with
  | nil => intro k; rfl
  | cons w ws ih => intro k; simp [enW, ih]
theorem en_ds {us : List U} {ws : List W} : ∀ {k : Nat}, Ds c E B us ws [] → us.all noB = true → Ds c E B (enU k us) (enW k ws) [] := by
  induction us generalizing ws with
  | nil =>
    intro k h q
    rcases h.nil_of rfl with ⟨_, rfl⟩ | ⟨u, w, us', ws', e, _, _, _⟩
    · exact .nil
    · cases e
  | cons u us ih =>
    intro k h q
    rcases h.nil_of rfl with ⟨e, _⟩ | ⟨u', w, us', ws', e, rfl, d1, d2⟩
    · cases e
    · cases e
      simp only [List.all_cons, Bool.and_eq_true] at q
      refine .cons (F := []) (Ds.tup (.cons (F := []) d_int (.cons (F := []) (d1 : D c E B u w []) .nil)) ?_) (ih d2 q.2)
      show (true && (noB u && true)) = true
      rw [q.1]; rfl
theorem sim_enm {a : VL → RU U} {ma : Lo → S → R W} (ha : SimE C md a ma) : Sim C md RIt (iEnm a) (CC.iEnm ma C.p) := fun s l vl E K B Fs r => by
  refine (ha s l vl E K B Fs r).bind r.bk fun u v w s2 E2 F Fs2 k2 r2 d f => ?_
  cases e : itemsU u with
  | none => trivial
  | some us =>
    obtain ⟨ws, ds, h⟩ := items_ok d e
    have k3 := k2.trans (Keep.dn fun a m => (f.2 a m).1)
    have r3 := r2.dn f.2 d.alive
    dsimp only
    split
    · rename_i q
      have ds2 := en_ds (k := 0) ds q
      rcases h with ⟨n, rfl, e2, e3, e4⟩ | rfl
      · dsimp only
        rw [e2]
        refine ⟨_, s2, _, [], Fs2, rfl, k3, r3, ⟨rfl, enW 0 ws, [n], ds2, fun a m => ?_, fun p' s' h => ?_⟩, .nil⟩
        · rw [List.mem_singleton.mp m]; exact ⟨e3, e4⟩
        · have e5 : CC.cellItems p' s' n = some ws := by
            unfold CC.cellItems at e2 ⊢
            rw [h n (by simp)]; exact e2
          refine ⟨fun i => ?_, ?_⟩
          · show (CC.cellItems p' s' n).map (fun ws => ws[i]?.map fun w => W.tup [.int (i : Nat), w]) = _
            rw [e5, enW_get, Nat.zero_add]; rfl
          · show _ ≤ CC.cellLen p' s' n
            unfold CC.cellLen
            rw [e5, enW_len]; exact Nat.le_refl _
      · exact ⟨_, s2, _, [], Fs2, rfl, k3, r3, ⟨rfl, enW 0 ws, [], ds2, no, fun p' s' h => ⟨fun i => by rw [enW_get, Nat.zero_add]; rfl, by rw [enW_len]; exact Nat.le_refl _⟩⟩, .nil⟩
    · trivial
end
end CV
set_option Elab.async false
set_option linter.all false
set_option maxRecDepth 100000
namespace CV
open PySem PySem.Spec PyProof.Rows L2
open CC (W Ob S Hh Lo R RS rd wr al nxt ItD)
section
variable {C : Ct} {md : Bool} {c c1 : Cf} {E E1 K K1 B : Pr} {l : Lo} {vl : VL} {s : S} {Fs : Nat → List Nat}
theorem for_ok {g : U → VL → Option VL} {m : W → Lo → S → CC.OG} {b : VL → RSU} {mb : Lo → S → RS} (hg : SimG C g m) (hb : SimS C b mb) {d : ItD} {ws : List W} {Sx : List Nat} {c0 : Cf} (al0 : ∀ a ∈ Sx, c0 a ≠ none)
    (hd : ∀ p s, (∀ a ∈ Sx, rd p s a = c0 a) → (∀ i : Nat, d.next p s i = some ws[i]?) ∧ ws.length ≤ d.cnt p s) : ∀ (us : List U) (i fuel : Nat) s l vl E K B Fs, SL C true (rd C.p s) E K B vl l Fs → Ds (rd C.p s) E B us (ws.drop i) [] → (∀ a ∈ Sx, rd C.p s a = c0 a ∧ (¬ E a ∨ B a)) → us.length < fuel →
      AftS C (rd C.p s) E K B (forL g b us vl) (CC.forI C.p m mb d fuel i l s)
  | us, i, 0, s, l, vl, E, K, B, Fs, r, ds, hs, hf => absurd hf (Nat.not_lt_zero _)
  | [], i, fuel + 1, s, l, vl, E, K, B, Fs, r, ds, hs, hf => by
    rcases ds.nil_of rfl with ⟨_, e⟩ | ⟨_, _, _, _, e, _⟩
    · have hi : ws[i]? = none := by
        rw [List.getElem?_eq_none]
        have := congrArg List.length e
        simp at this; omega
      unfold CC.forI
      rw [(hd C.p s fun a h => (hs a h).1).1 i, hi]
      exact ⟨l, s, E, Fs, rfl, .rfl', r⟩
    · cases e
  | u :: us, i, fuel + 1, s, l, vl, E, K, B, Fs, r, ds, hs, hf => by
    rcases ds.nil_of rfl with ⟨e, _⟩ | ⟨u', w, us', ws', e, e2, d1, d2⟩
    · cases e
    · cases e
      have hi : ws[i]? = some w := by
        have := congrArg (fun l => l[0]?) e2
        simpa [List.getElem?_drop] using this
      have e3 : ws.drop (i + 1) = ws' := by
        rw [show i + 1 = i + 1 from rfl, ← List.drop_drop, e2]; rfl
      unfold CC.forI forL
      rw [(hd C.p s fun a h => (hs a h).1).1 i, hi]
      dsimp only
      have q := hg s l vl E K B Fs u w [] r d1 .nil
      cases e4 : g u vl with
      | none => trivial
      | some v =>
        rw [e4] at q
        obtain ⟨l1, s1, E1, Fs1, e5, k1, r1⟩ := q
        rw [e5]
        dsimp only
        have h2 := hb s1 l1 v E1 K B Fs1 r1
        have go : ∀ v2 l3 s3 E3 Fs3, Keep (rd C.p s1) E1 K (rd C.p s3) E3 → SL C true (rd C.p s3) E3 K B v2 l3 Fs3 → AftS C (rd C.p s) E K B (forL g b us v2) (CC.forI C.p m mb d fuel (i + 1) l3 s3) := fun v2 l3 s3 E3 Fs3 k3 r3 => by
          have kk := k1.trans k3
          refine (for_ok hg hb al0 hd us (i + 1) fuel s3 l3 v2 E3 K B Fs3 r3 ?_ (fun a h => ?_) (by simp at hf; omega)).then kk
          · rw [e3]; exact d2.mono kk r.bk no
          · have := kk.at r.bk (a := a) ⟨by rw [(hs a h).1]; exact al0 a h, (hs a h).2⟩
            exact ⟨this.1.trans (hs a h).1, this.2⟩
        cases e6 : b v with
        | nx v2 =>
          rw [e6] at h2
          obtain ⟨l3, s3, E3, Fs3, e7, k3, r3⟩ := h2
          rw [e7]
          dsimp only
          rw [fV_eq]
          exact go v2 l3 s3 E3 Fs3 k3 r3
        | ct v2 =>
          rw [e6] at h2
          obtain ⟨l3, s3, E3, Fs3, e7, k3, r3⟩ := h2
          rw [e7]
          dsimp only
          rw [fV_eq]
          exact go v2 l3 s3 E3 Fs3 k3 r3
        | brk v2 =>
          rw [e6] at h2
          obtain ⟨l3, s3, E3, Fs3, e7, k3, r3⟩ := h2
          rw [e7]
          exact ⟨l3, s3, E3, Fs3, rfl, k1.trans k3, r3⟩
        | ret u v2 =>
          rw [e6] at h2
          obtain ⟨w, l3, s3, E3, F3, Fs3, e7, k3, r3⟩ := h2
          rw [e7]
          exact ⟨w, l3, s3, E3, F3, Fs3, rfl, k1.trans k3, r3⟩
        | exc q u v2 =>
          rw [e6] at h2
          obtain ⟨w, l3, s3, E3, Fs3, e7, k3, r3⟩ := h2
          rw [e7]
          exact ⟨w, l3, s3, E3, Fs3, rfl, k1.trans k3, r3⟩
        | bad => trivial
theorem sim_for {g : U → VL → Option VL} {m : W → Lo → S → CC.OG} {b : VL → RSU} {mb : Lo → S → RS} {mi : VL → RU (List U)} {mi' : Lo → S → R ItD} (hg : SimG C g m) (hi : Sim C true RIt mi mi') (hb : SimS C b mb) : SimS C (sFor g mi b) (CC.sFor C.p m mi' mb) := fun s l vl E K B Fs r => by
  have : CC.sFor C.p m mi' mb l s = RtoS l (mi' l s) fun d s1 => CC.forI C.p m mb d (d.cnt C.p s1 + 1) 0 l s1 := by
    unfold CC.sFor RtoS
    cases mi' l s <;> rfl
  rw [this]
  refine AftS.val (rel := RIt) (hi s l vl E K B Fs r) fun us v d s2 E2 F Fs2 k2 r2 q f => ?_
  obtain ⟨_, ws, Sx, ds, al, hd⟩ := q
  refine (for_ok hg hb (c0 := rd C.p s2) (fun a h => (al a h).1) hd us 0 _ s2 l v E2 K B Fs2 r2 (by rw [List.drop_zero]; exact ds) (fun a h => ⟨rfl, (al a h).2⟩) ?_).then k2
  rw [ds.len]
  exact Nat.lt_succ_of_le (hd C.p s2 fun a h => rfl).2
theorem D.upd {u : U} {w : W} {F : List Nat} {n : Nat} (d : D c E B u w F) (h : ∀ a, a ≠ n → c1 a = c a) (he : E n) (hb : ¬ B n) (hf : n ∉ F) : D c1 E B u w F := by
  obtain ⟨T, Z, d, h1, h2, h3⟩ := d
  refine ⟨T, Z, d.mono fun a m => h a ?_, h1, h2, h3⟩
  rintro rfl
  rcases m with m | m | m
  · exact hf m
  · exact h2 a m he
  · exact hb (h3 a m)
theorem Ds.upd {u : List U} {w : List W} {F : List Nat} {n : Nat} (d : Ds c E B u w F) (h : ∀ a, a ≠ n → c1 a = c a) (he : E n) (hb : ¬ B n) (hf : n ∉ F) : Ds c1 E B u w F := by
  induction d with
  | nil => exact .nil
  | cons d r ih => exact .cons (d.upd h he hb fun m => hf (List.mem_append_left _ m)) (ih fun m => hf (List.mem_append_right _ m))
theorem SL.upd {n : Nat} (r : SL C md c E K B vl l Fs) (h : ∀ a, a ≠ n → c1 a = c a) (h0 : c1 n ≠ none) (he : E n) (hk : ¬ K n) (hf : ∀ i, n ∉ Fs i) : SL C md c1 E K B vl l Fs :=
  have al : ∀ a, c a ≠ none → c1 a ≠ none := fun a ha => by
    by_cases e : a = n
    · rw [e]; exact h0
    · rw [h a e]; exact ha
  ⟨r.len, fun i u q => by
    obtain ⟨w, h1, h2⟩ := r.has i u q
    exact ⟨w, h1, h2.upd h he (fun b => hk (r.bk n b)) (hf i)⟩, r.own, r.bor, fun i a m => ⟨al a (r.ex i a m).1, (r.ex i a m).2⟩, fun u w q => (r.ax u w q).upd h he (fun b => hk (r.bk n b)) (by simp), r.mpk, fun a q => by
    by_cases e : a = n
    · rw [e]; exact he
    · rw [h a e] at q; exact r.ev a q, r.bk, fun a k => ⟨al a (r.ka a k).1, (r.ka a k).2⟩⟩
theorem Keep.upd {n : Nat} (h : ∀ a, a ≠ n → c1 a = c a) (h0 : c1 n ≠ none) (he : E n) (hk : ¬ K n) : Keep c E K c1 E :=
  ⟨fun a ob q e => ⟨by rw [h a (fun z => e (z ▸ he))]; exact q, e⟩, fun a k => ⟨h a (fun z => hk (z ▸ k)), id⟩, fun a q => by
    by_cases e : a = n
    · rw [e]; exact h0
    · rw [h a e]; exact q⟩
theorem wr_ne {p : Hh} {s : S} {n : Nat} {o : Ob} (hn : rd p s n ≠ none) : ∀ a, a ≠ n → rd p (wr p s n o) a = rd p s a := fun a e => by
  rw [CC.rd_wr (by
    cases q : rd p s n with
    | none => exact absurd q hn
    | some o => exact CC.rd_lt q), if_neg e]
theorem wr_at {p : Hh} {s : S} {n : Nat} {o : Ob} (hn : rd p s n ≠ none) : rd p (wr p s n o) n = some o := by
  rw [CC.rd_wr (by
    cases q : rd p s n with
    | none => exact absurd q hn
    | some o => exact CC.rd_lt q), if_pos rfl]
end
def bindV (u : U) (v : VL) : CC.CTg → Option VL
  | .nm i => some (v.set i (some u))
  | .pr i j => (match u with | .tup [a, b] => some ((v.set i (some a)).set j (some b)) | _ => none)
  | .tr i j k => (match u with | .tup [a, b, c] => some (((v.set i (some a)).set j (some b)).set k (some c)) | _ => none)
def wipeV (v : VL) : List Nat → VL
  | [] => v
  | i :: is => (wipeV v is).set i none
def noOs (v : VL) : List Nat → Bool
  | [] => true
  | i :: is => (match v[i]? with | some (some u) => noO u | _ => true) && noOs v is
def restV (v0 v : VL) : List Nat → VL
  | [] => v
  | i :: is => (restV v0 v is).set i (match v0[i]? with | some o => o | none => none)
def lcL (ct : CC.CTg) (t : VL → RU Bool) (e : VL → RU U) : List U → VL → RU (List U)
  | [], v => .ok [] v
  | u :: r, v => match bindV u v ct with
    | none => .bad
    | some v1 => match t v1 with
      | .ok false v2 => lcL ct t e r (wipeV v2 ct.slots)
      | .ok true v2 => (match e v2 with
        | .ok y v3 => (match lcL ct t e r (wipeV v3 ct.slots) with
          | .ok ys v4 => .ok (y :: ys) v4
          | _ => .bad)
        | _ => .bad)
      | _ => .bad
def eLc (ct : CC.CTg) (mi : VL → RU (List U)) (t : VL → RU Bool) (e : VL → RU U) : VL → RU U := fun v => (mi v).bind fun us v1 => if noOs v1 ct.slots then (match lcL ct t e us (wipeV v1 ct.slots) with
  | .ok ys v2 => if ys.length ≤ 1000000 ∧ ys.all noB = true then .ok (.lst .o ys) (restV v1 v2 ct.slots) else .bad
  | _ => .bad) else .bad
section
variable {C : Ct} {md : Bool} {c c1 : Cf} {E E1 K K1 B : Pr} {l : Lo} {vl : VL} {s : S} {Fs : Nat → List Nat}
theorem SL.put0 (r : SL C md c E K B vl l Fs) (i : Nat) {u : U} {w : W} (d : D c E B u w []) (hm : C.mp = none ∨ i ≠ C.mi) : SL C md c E K B (vl.set i (some u)) (l.set i (some w)) (upF Fs i []) :=
  r.put i (some u) w _ (by simp) (fun j h => List.getElem?_set_ne (Ne.symm h)) (fun u' e hi => by cases e; exact ⟨List.getElem?_set_self (by rw [← r.len]; exact hi), d⟩)
    (fun w' e => by
      rcases hm with hm | hm
      · rw [hm] at e; cases e
      · rw [List.getElem?_set_ne hm]; exact r.mpk w' e) List.nodup_nil no
theorem set_out {α : Type} {l : List α} {i j : Nat} {x : α} (h : j ≠ i) : (l.set i x)[j]? = l[j]? := List.getElem?_set_ne (Ne.symm h)
theorem Ds.two {x y : U} {ws : List W} (h : Ds c E B [x, y] ws []) : ∃ w1 w2, ws = [w1, w2] ∧ D c E B x w1 [] ∧ D c E B y w2 [] := by
  rcases h.nil_of rfl with ⟨e, _⟩ | ⟨u1, w1, us1, ws1, e, rfl, d1, ds⟩
  · cases e
  · cases e
    rcases ds.nil_of rfl with ⟨e, _⟩ | ⟨u2, w2, us2, ws2, e, rfl, d2, ds⟩
    · cases e
    · cases e
      rcases ds.nil_of rfl with ⟨_, rfl⟩ | ⟨_, _, _, _, e, _⟩
      · exact ⟨w1, w2, rfl, d1, d2⟩
      · cases e
theorem Ds.three {x y z : U} {ws : List W} (h : Ds c E B [x, y, z] ws []) : ∃ w1 w2 w3, ws = [w1, w2, w3] ∧ D c E B x w1 [] ∧ D c E B y w2 [] ∧ D c E B z w3 [] := by
  rcases h.nil_of rfl with ⟨e, _⟩ | ⟨u1, w1, us1, ws1, e, rfl, d1, ds⟩
  · cases e
  · cases e
    obtain ⟨w2, w3, rfl, d2, d3⟩ := Ds.two (c := c) ds
    exact ⟨w1, w2, w3, rfl, d1, d2, d3⟩
theorem bind_ok {ct : CC.CTg} {u : U} {w : W} {v1 : VL} (hm : C.mp = none ∨ C.mi ∉ ct.slots) (r : SL C md c E K B vl l Fs) (d : D c E B u w []) (h : bindV u vl ct = some v1) : ∃ l1 Fs1, ct.bind w l = some l1 ∧ SL C md c E K B v1 l1 Fs1 ∧ l1.length = l.length ∧ (∀ j, j ∉ ct.slots → l1[j]? = l[j]?) ∧ ∀ i a, a ∈ Fs1 i → a ∈ Fs i := by
  have hm' : ∀ i, i ∈ ct.slots → C.mp = none ∨ i ≠ C.mi := fun i hi => hm.imp id fun n e => n (e ▸ hi)
  have up : ∀ (Fs : Nat → List Nat) i j a, a ∈ upF Fs i [] j → a ∈ Fs j := fun Fs i j a m => by
    by_cases e : j = i
    · rw [e, upF_same] at m; cases m
    · rw [upF_ne e] at m; exact m
  cases ct with
  | nm i =>
    cases h
    exact ⟨_, _, rfl, r.put0 i d (hm' i (by simp [CC.CTg.slots])), by simp, fun j hj => set_out fun e => hj (by simp [CC.CTg.slots, e]), up Fs i⟩
  | pr i j =>
    cases u with
    | tup us =>
      obtain ⟨_, ws, rfl, ds⟩ := d.is_tup
      match us, ds, h with
      | [x, y], ds, h =>
        cases h
        obtain ⟨w1, w2, rfl, d1, d2⟩ := ds.two
        exact ⟨_, _, rfl, (r.put0 i d1 (hm' i (by simp [CC.CTg.slots]))).put0 j d2 (hm' j (by simp [CC.CTg.slots])), by simp, fun k hk => (set_out fun e => hk (by simp [CC.CTg.slots, e])).trans (set_out fun e => hk (by simp [CC.CTg.slots, e])), fun k a m => up Fs i k a (up _ j k a m)⟩
      | [], _, h => cases h
      | [_], _, h => cases h
      | _ :: _ :: _ :: _, _, h => cases h
    | _ => cases h
  | tr i j k =>
    cases u with
    | tup us =>
      obtain ⟨_, ws, rfl, ds⟩ := d.is_tup
      match us, ds, h with
      | [x, y, z], ds, h =>
        cases h
        obtain ⟨w1, w2, w3, rfl, d1, d2, d3⟩ := ds.three
        exact ⟨_, _, rfl, ((r.put0 i d1 (hm' i (by simp [CC.CTg.slots]))).put0 j d2 (hm' j (by simp [CC.CTg.slots]))).put0 k d3 (hm' k (by simp [CC.CTg.slots])), by simp, fun q hq => ((set_out fun e => hq (by simp [CC.CTg.slots, e])).trans (set_out fun e => hq (by simp [CC.CTg.slots, e]))).trans (set_out fun e => hq (by simp [CC.CTg.slots, e])), fun q a m => up Fs i q a (up _ j q a (up _ k q a m))⟩
      | [], _, h => cases h
      | [_], _, h => cases h
      | [_, _], _, h => cases h
      | _ :: _ :: _ :: _ :: _, _, h => cases h
    | _ => cases h
theorem wipeV_len {v : VL} : ∀ {is : List Nat}, (wipeV v is).length = v.length
  | [] => rfl
  | i :: is => by simp [wipeV, wipeV_len]
theorem wipeL_len {v : Lo} : ∀ {is : List Nat}, (CC.wipeL v is).length = v.length
  | [] => rfl
  | i :: is => by simp [CC.wipeL, wipeL_len]
theorem wipeV_out {v : VL} {j : Nat} : ∀ {is : List Nat}, j ∉ is → (wipeV v is)[j]? = v[j]?
  | [], _ => rfl
  | i :: is, h => by
    simp only [List.mem_cons, not_or] at h
    exact (set_out h.1).trans (wipeV_out h.2)
theorem wipeL_out {v : Lo} {j : Nat} : ∀ {is : List Nat}, j ∉ is → (CC.wipeL v is)[j]? = v[j]?
  | [], _ => rfl
  | i :: is, h => by
    simp only [List.mem_cons, not_or] at h
    exact (set_out h.1).trans (wipeL_out h.2)
theorem wipeV_in {v : VL} {j : Nat} {u : U} : ∀ {is : List Nat}, j ∈ is → (wipeV v is)[j]? ≠ some (some u)
  | i :: is, h => by
    intro e
    unfold wipeV at e
    by_cases q : j = i
    · subst q
      by_cases hi : j < (wipeV v is).length
      · rw [List.getElem?_set_self hi] at e; cases e
      · rw [List.getElem?_eq_none (by simpa using hi)] at e; cases e
    · rw [set_out q] at e
      exact wipeV_in ((List.mem_cons.mp h).elim (fun z => absurd z q) id) e
theorem SL.wipe {l0 : Lo} {is : List Nat} (r : SL C md c E K B vl l Fs) (hl : l0.length = l.length) (h : ∀ j, j ∉ is → l[j]? = l0[j]?) (hm : ∀ w, C.mp = some w → l0[C.mi]? = some (some w)) : SL C md c E K B (wipeV vl is) l0 Fs :=
  ⟨by rw [wipeV_len, hl]; exact r.len, fun i u q => by
    by_cases e : i ∈ is
    · exact absurd q (wipeV_in e)
    · rw [wipeV_out e] at q
      obtain ⟨w, h1, h2⟩ := r.has i u q
      exact ⟨w, (h i e).symm.trans h1, h2⟩, r.own, r.bor, r.ex, r.ax, hm, r.ev, r.bk, r.ka⟩
theorem noOs_at {v : VL} {i : Nat} {u : U} : ∀ {is : List Nat}, noOs v is = true → i ∈ is → v[i]? = some (some u) → noO u = true
  | j :: is, h, m, e => by
    unfold noOs at h
    rw [Bool.and_eq_true] at h
    rcases List.mem_cons.mp m with rfl | m
    · have := h.1
      rw [e] at this
      exact this
    · exact noOs_at h.2 m e
theorem restV_len {v0 v : VL} : ∀ {is : List Nat}, (restV v0 v is).length = v.length
  | [] => rfl
  | i :: is => by simp [restV, restV_len]
theorem restV_out {v0 v : VL} {j : Nat} : ∀ {is : List Nat}, j ∉ is → (restV v0 v is)[j]? = v[j]?
  | [], _ => rfl
  | i :: is, h => by
    simp only [List.mem_cons, not_or] at h
    exact (set_out h.1).trans (restV_out h.2)
theorem restV_in {v0 v : VL} {j : Nat} {u : U} : ∀ {is : List Nat}, j ∈ is → (restV v0 v is)[j]? = some (some u) → v0[j]? = some (some u)
  | i :: is, h, e => by
    unfold restV at e
    by_cases q : j = i
    · subst q
      by_cases hi : j < (restV v0 v is).length
      · rw [List.getElem?_set_self hi] at e
        cases q : v0[j]? with
        | none => rw [q] at e; cases e
        | some o => rw [q] at e; exact e
      · rw [List.getElem?_eq_none (by simpa using hi)] at e; cases e
    · rw [set_out q] at e
      exact restV_in ((List.mem_cons.mp h).elim (fun z => absurd z q) id) e
structure Acc (C : Ct) (s : S) (E K : Pr) (Fs : Nat → List Nat) (n : Nat) (us : List U) (ws : List W) (F : List Nat) : Prop where
  at_ : rd C.p s n = some (.lst ws)
  ds : Ds (rd C.p s) E nB us ws F
  nd : (n :: F).Nodup
  fr : ∀ a ∈ n :: F, E a ∧ ¬ K a ∧ ∀ i, a ∉ Fs i
theorem Ds.in {us : List U} {ws : List W} {F : List Nat} (h : Ds c E B us ws F) (q : us.all noB = true) {B' : Pr} : Ds c E B' us ws F := by
  induction h with
  | nil => exact .nil
  | cons d r ih =>
    simp only [List.all_cons, Bool.and_eq_true] at q
    exact .cons (d.noB q.1) (ih q.2)
theorem Ds.snoc {us : List U} {ws : List W} {F : List Nat} {u : U} {w : W} {F' : List Nat} (h : Ds c E B us ws F) (d : D c E B u w F') : Ds c E B (us ++ [u]) (ws ++ [w]) (F ++ F') := by
  induction h with
  | nil => have := Ds.cons d (.nil : Ds c E B [] [] []); rw [List.append_nil] at this; exact this
  | cons d' r ih => rw [List.append_assoc]; exact .cons d' ih
theorem lc_ok {ct : CC.CTg} {t : VL → RU Bool} {e : VL → RU U} {mt : Lo → S → R Bool} {me : Lo → S → R W} (hm : C.mp = none ∨ C.mi ∉ ct.slots) (ht : SimT C md t mt) (he : SimE C md e me) {d : ItD} {wsI : List W} {Sx : List Nat} {c0 : Cf} (al0 : ∀ a ∈ Sx, c0 a ≠ none)
    (hd : ∀ p s, (∀ a ∈ Sx, rd p s a = c0 a) → (∀ i : Nat, d.next p s i = some wsI[i]?) ∧ wsI.length ≤ d.cnt p s) (n : Nat) {l0 : Lo} {K B : Pr} : ∀ (us : List U) (i fuel : Nat) (s : S) (v : VL) (E : Pr) (Fs : Nat → List Nat) (ua : List U) (wa : List W) (Fa : List Nat), SL C md (rd C.p s) E K B v l0 Fs → Ds (rd C.p s) E B us (wsI.drop i) [] →
      (∀ a ∈ Sx, rd C.p s a = c0 a ∧ (¬ E a ∨ B a)) → Acc C s E K Fs n ua wa Fa → us.length < fuel → ∀ ys v', lcL ct t e us v = .ok ys v' → wa.length + ys.length ≤ 1000000 → ys.all noB = true →
      ∃ s' E' Fs' ws' Fa', CC.lcI C.p ct mt me d n fuel i l0 s = .ok (.ref n) s' ∧ Keep (rd C.p s) E K (rd C.p s') E' ∧ SL C md (rd C.p s') E' K B v' l0 Fs' ∧ Acc C s' E' K Fs' n (ua ++ ys) (wa ++ ws') Fa'
  | us, i, 0, s, v, E, Fs, ua, wa, Fa, r, ds, hs, ac, hf, ys, v', q, hl, hb => absurd hf (Nat.not_lt_zero _)
  | [], i, fuel + 1, s, v, E, Fs, ua, wa, Fa, r, ds, hs, ac, hf, ys, v', q, hl, hb => by
    cases q
    rcases ds.nil_of rfl with ⟨_, e⟩ | ⟨_, _, _, _, e, _⟩
    · have hi : wsI[i]? = none := by
        rw [List.getElem?_eq_none]
        have := congrArg List.length e
        simp at this; omega
      unfold CC.lcI
      rw [(hd C.p s fun a h => (hs a h).1).1 i, hi]
      exact ⟨s, E, Fs, [], Fa, rfl, .rfl', r, by rw [List.append_nil, List.append_nil]; exact ac⟩
    · cases e
  | u :: us, i, fuel + 1, s, v, E, Fs, ua, wa, Fa, r, ds, hs, ac, hf, ys, v', q, hl, hb => by
    rcases ds.nil_of rfl with ⟨e, _⟩ | ⟨u', w, us', ws', e1, e2, d1, d2⟩
    · cases e
    · cases e1
      have hi : wsI[i]? = some w := by
        have := congrArg (fun l => l[0]?) e2
        simpa [List.getElem?_drop] using this
      have e3 : wsI.drop (i + 1) = ws' := by
        rw [← List.drop_drop, e2]; rfl
      unfold CC.lcI
      rw [(hd C.p s fun a h => (hs a h).1).1 i, hi]
      dsimp only
      unfold lcL at q
      cases e4 : bindV u v ct with
      | none => rw [e4] at q; cases q
      | some v1 =>
        rw [e4] at q
        dsimp only at q
        obtain ⟨l1, Fs1, e5, r1, hl1, ho1, hF1⟩ := bind_ok hm r d1 e4
        rw [e5]
        dsimp only
        have fF : Fr (n :: Fa) K Fs1 := ⟨ac.nd, fun a m => ⟨(ac.fr a m).2.1, fun j z => (ac.fr a m).2.2 j (hF1 j a z)⟩⟩
        have r1' := r1.grow fF fun a m => ⟨by
          rcases List.mem_cons.mp m with rfl | m
          · rw [ac.at_]; simp
          · exact ac.ds.alive a m, (ac.fr a m).1⟩
        have sub : ∀ a, K a → kU K (n :: Fa) a := fun a h => .inl h
        have inn : ∀ a ∈ n :: Fa, kU K (n :: Fa) a := fun a h => .inr h
        have h3 := ht s l1 v1 E (kU K (n :: Fa)) B Fs1 r1'
        -- the list so far behind a part
        have keepA : ∀ {s2 E2 Fs2 v2}, Keep (rd C.p s) E (kU K (n :: Fa)) (rd C.p s2) E2 → SL C md (rd C.p s2) E2 (kU K (n :: Fa)) B v2 l1 Fs2 → Acc C s2 E2 K Fs2 n ua wa Fa := fun k2 r2 =>
          ⟨by rw [(k2.kp n (inn n (List.mem_cons_self ..))).1]; exact ac.at_, ac.ds.mono k2 (fun _ h => h.elim) fun a m => inn a (List.mem_cons_of_mem _ m), ac.nd, fun a m => ⟨(k2.kp a (inn a m)).2 (ac.fr a m).1, (ac.fr a m).2.1, fun j => r2.sep r.bk m (ac.fr a m).2.1 j⟩⟩
        have hsx : ∀ {s2 E2}, Keep (rd C.p s) E K (rd C.p s2) E2 → ∀ a ∈ Sx, rd C.p s2 a = c0 a ∧ (¬ E2 a ∨ B a) := fun k2 a h => by
          have := k2.at r.bk (a := a) ⟨by rw [(hs a h).1]; exact al0 a h, (hs a h).2⟩
          exact ⟨this.1.trans (hs a h).1, this.2⟩
        have hf' : us.length < fuel := by simp at hf; omega
        cases e6 : t v1 with
        | bad => rw [e6] at q; cases q
        | exc _ _ _ => rw [e6] at q; cases q
        | ok bt v2 =>
          rw [e6] at h3 q
          obtain ⟨bt', s2, E2, F, Fs2, e7, k2, r2, ⟨rfl, _⟩, _⟩ := h3
          rw [e7]
          cases bt with
          | false =>
            dsimp only at q
            dsimp only
            have r3 := (r2.weak sub r.bk).wipe (is := ct.slots) (l0 := l0) hl1.symm ho1 r.mpk
            obtain ⟨s', E', Fs', ws2, Fa', g1, g2, g3, g4⟩ := lc_ok hm ht he al0 hd n us (i + 1) fuel s2 _ E2 Fs2 ua wa Fa r3 (by rw [e3]; exact d2.mono (k2.weak sub) r.bk no) (hsx (k2.weak sub)) (keepA k2 r2) hf' ys v' q hl hb
            exact ⟨s', E', Fs', ws2, Fa', g1, (k2.weak sub).trans g2, g3, g4⟩
          | true =>
            dsimp only at q
            dsimp only
            have h4 := he s2 l1 v2 E2 (kU K (n :: Fa)) B Fs2 r2
            cases e8 : e v2 with
            | bad => rw [e8] at q; cases q
            | exc _ _ _ => rw [e8] at q; cases q
            | ok y v3 =>
              rw [e8] at h4 q
              obtain ⟨wy, s3, E3, F3, Fs3, e9, k3, r3, d3, f3⟩ := h4
              rw [e9]
              dsimp only at q
              dsimp only
              cases e10 : lcL ct t e us (wipeV v3 ct.slots) with
              | bad => rw [e10] at q; cases q
              | exc _ _ _ => rw [e10] at q; cases q
              | ok ys2 v4 =>
                rw [e10] at q
                cases q
                have kk := k2.trans k3
                have ac3 := keepA kk r3
                simp only [List.all_cons, Bool.and_eq_true, List.length_cons] at hb hl
                rw [ac3.at_]
                dsimp only
                rw [if_pos (by omega)]
                have na : rd C.p s3 n ≠ none := by rw [ac3.at_]; simp
                have ne := wr_ne (p := C.p) (s := s3) (n := n) (o := .lst (wa ++ [wy])) na
                have at4 := wr_at (p := C.p) (s := s3) (n := n) (o := .lst (wa ++ [wy])) na
                have nin : n ∉ Fa ++ F3 := fun m => (List.mem_append.mp m).elim (List.nodup_cons.mp ac.nd).1 fun m => (f3.2 n m).1 (inn n (List.mem_cons_self ..))
                have frn := ac3.fr n (List.mem_cons_self ..)
                have r4 := ((r3.weak sub r.bk).upd ne (by rw [at4]; simp) frn.1 frn.2.1 frn.2.2).wipe (is := ct.slots) (l0 := l0) hl1.symm ho1 r.mpk
                have k4 : Keep (rd C.p s) E K (rd C.p (wr C.p s3 n (.lst (wa ++ [wy])))) E3 := (kk.weak sub).trans (Keep.upd ne (by rw [at4]; simp) frn.1 frn.2.1)
                have ac4 : Acc C (wr C.p s3 n (.lst (wa ++ [wy]))) E3 K Fs3 n (ua ++ [y]) (wa ++ [wy]) (Fa ++ F3) := ⟨at4, (ac3.ds.snoc (d3.noB hb.1)).upd ne frn.1 id nin, by
                  refine List.nodup_cons.mpr ⟨nin, List.nodup_append.mpr ⟨(List.nodup_cons.mp ac.nd).2, f3.1, fun a h b h2 e => (f3.2 b h2).1 (inn b (List.mem_cons_of_mem _ (e ▸ h)))⟩⟩, fun a m => by
                  rcases List.mem_cons.mp m with rfl | m
                  · exact frn
                  · rcases List.mem_append.mp m with m | m
                    · exact ac3.fr a (List.mem_cons_of_mem _ m)
                    · exact ⟨d3.own a m, fun h => (f3.2 a m).1 (sub a h), (f3.2 a m).2⟩⟩
                obtain ⟨s', E', Fs', ws2, Fa', g1, g2, g3, g4⟩ := lc_ok hm ht he al0 hd n us (i + 1) fuel _ _ E3 Fs3 (ua ++ [y]) (wa ++ [wy]) (Fa ++ F3) r4 (by rw [e3]; exact d2.mono k4 r.bk no) (hsx k4) ac4 hf' ys2 v' e10 (by rw [List.length_append]; simp; omega) hb.2
                refine ⟨s', E', Fs', wy :: ws2, Fa', g1, k4.trans g2, g3, ?_⟩
                rw [List.append_assoc, List.append_assoc] at g4
                exact g4
theorem sim_lc {ct : CC.CTg} {mi : VL → RU (List U)} {mi' : Lo → S → R ItD} {t : VL → RU Bool} {e : VL → RU U} {mt : Lo → S → R Bool} {me : Lo → S → R W} (hm : C.mp = none ∨ C.mi ∉ ct.slots) (hi : Sim C md RIt mi mi') (ht : SimT C md t mt) (he : SimE C md e me) : SimE C md (eLc ct mi t e) (CC.eLc C.p ct mi' mt me) := fun s l vl E K B Fs r => by
  refine (hi s l vl E K B Fs r).bind r.bk fun us v1 d s2 E2 F Fs2 k2 r2 q f => ?_
  obtain ⟨_, wsI, Sx, ds, al0, hd⟩ := q
  split
  · rename_i hn
    cases e1 : lcL ct t e us (wipeV v1 ct.slots) with
    | bad => trivial
    | exc _ _ _ => trivial
    | ok ys v2 =>
      dsimp only
      split
      · rename_i hq
        have mp0 : ∀ w, C.mp = some w → (CC.wipeL l ct.slots)[C.mi]? = some (some w) := fun w e => by
          rcases hm with hm | hm
          · rw [hm] at e; cases e
          · rw [wipeL_out hm]; exact r2.mpk w e
        have r3 := (r2.ext (c1 := rd C.p (al s2 (.lst []))) ext_al none_al).wipe (is := ct.slots) (l0 := CC.wipeL l ct.slots) wipeL_len (fun j h => (wipeL_out h).symm) mp0
        have ac : Acc C (al s2 (.lst [])) E2 K Fs2 (nxt C.p s2) [] [] [] := ⟨rd_new, .nil, by simp, fun a m => by
          rw [List.mem_singleton.mp m]
          exact ⟨r2.ev _ rd_nxt, fun h => (r2.ka _ h).1 rd_nxt, fun i h => (r2.ex i _ h).1 rd_nxt⟩⟩
        obtain ⟨s', E', Fs', ws', Fa', g1, g2, g3, g4⟩ := lc_ok hm ht he (c0 := rd C.p s2) (fun a h => (al0 a h).1) hd (nxt C.p s2) us 0 (d.cnt C.p s2 + 1) _ _ E2 Fs2 [] [] [] r3 (by rw [List.drop_zero]; exact ds.ext ext_al) (fun a h => ⟨by
          cases q : rd C.p s2 a with
          | none => exact absurd q (al0 a h).1
          | some o => exact ext_al a o q, (al0 a h).2⟩) ac (by rw [ds.len]; exact Nat.lt_succ_of_le (hd C.p s2 fun a h => rfl).2) ys v2 e1 (by simpa using hq.1) hq.2
        rw [List.nil_append, List.nil_append] at g4
        have kk : Keep (rd C.p s2) E2 K (rd C.p s') E' := (Ext.keep ext_al r2.ka).trans g2
        obtain ⟨T, d0, t1, t2⟩ := g4.ds.to0 hq.2
        refine ⟨_, s', E', nxt C.p s2 :: Fa', fun i => if i ∈ ct.slots then [] else Fs' i, g1, k2.trans kk, ?_, ⟨T, [], .z (.own g4.at_ .lst d0), fun a m => (g4.fr a m).1, t2, no⟩, g4.nd, fun a m => ⟨(g4.fr a m).2.1, fun i => ?_⟩⟩
        · have sub : ∀ i a, a ∈ (if i ∈ ct.slots then [] else Fs' i) → a ∈ Fs' i := fun i a m => by
            split at m
            · cases m
            · exact m
          refine ⟨by rw [restV_len, g3.len, wipeL_len], fun i u h => ?_, fun m => ⟨fun i => ⟨?_, fun a h => ((g3.own m).1 i).2 a (sub i a h)⟩, fun i j a h h2 => (g3.own m).2 i j a (sub i a h) (sub j a h2)⟩, fun m i a h => g3.bor m i a (sub i a h), fun i a h => g3.ex i a (sub i a h), g3.ax, r2.mpk, g3.ev, g3.bk, g3.ka⟩
          · by_cases hi : i ∈ ct.slots
            · have h0 := restV_in hi h
              obtain ⟨w, h1, h2⟩ := r2.has i u h0
              have f0 := h2.noO (noOs_at hn hi h0)
              rw [f0] at h2
              rw [if_pos hi]
              exact ⟨w, h1, h2.mono kk r2.bk no⟩
            · rw [restV_out hi] at h
              obtain ⟨w, h1, h2⟩ := g3.has i u h
              rw [if_neg hi]
              exact ⟨w, (wipeL_out hi).symm.trans h1, h2⟩
          · split
            · exact List.nodup_nil
            · exact ((g3.own m).1 i).1
        · show a ∉ (if i ∈ ct.slots then [] else Fs' i)
          by_cases hi : i ∈ ct.slots
          · rw [if_pos hi]; simp
          · rw [if_neg hi]; exact (g4.fr a m).2.2 i
      · trivial
  · trivial
end
end CV
set_option Elab.async false
set_option linter.all false
set_option maxRecDepth 100000
namespace CV
open PySem PySem.Spec PyProof.Rows L2
open CC (W Ob S Hh Lo R RS rd wr al nxt ItD)
inductive RF where
  | ok (u o : U) | exc (c : Nat) (u o : U) | bad
def AftF (mu : Option Nat) (c : Cf) (E K : Pr) (p : Hh) (ws : List W) (r : RF) (r' : R W) : Prop := match r with
  | .ok u o => ∃ w s E' F Fo, r' = .ok w s ∧ Keep c E K (rd p s) E' ∧ (∀ n, rd p s n = none → E' n) ∧ D (rd p s) E' nB u w F ∧ (F ++ Fo).Nodup ∧ (∀ a ∈ F ++ Fo, ¬ K a) ∧ (∀ j, mu = some j → ∃ w0, ws[j]? = some w0 ∧ D (rd p s) E' nB o w0 Fo)
  | .exc k u o => ∃ w s E' Fo, r' = .exc k w s ∧ Keep c E K (rd p s) E' ∧ (∀ n, rd p s n = none → E' n) ∧ D (rd p s) E' nB u w [] ∧ Fo.Nodup ∧ (∀ a ∈ Fo, ¬ K a) ∧ (∀ j, mu = some j → ∃ w0, ws[j]? = some w0 ∧ D (rd p s) E' nB o w0 Fo)
  | .bad => True
def SimF (mu : Option Nat) (F : List U → RF) (m : Hh → List W → R W) : Prop :=
  ∀ (p : Hh) (us : List U) (ws : List W) (E K B : Pr) (Fx : List Nat), Ds (rd p ⟨[], []⟩) E B us ws Fx → Fx.Nodup → (∀ a ∈ Fx, ¬ K a) → (∀ n, rd p ⟨[], []⟩ n = none → E n) → (∀ n, B n → K n) → (∀ n, K n → rd p ⟨[], []⟩ n ≠ none ∧ E n) →
    AftF mu (rd p ⟨[], []⟩) E K p ws (F us) (m p ws)
def outO (j : Nat) (v : VL) : Option U := match v[j]? with
  | some (some u) => if noB u then some u else none
  | _ => none
def fnV (np N : Nat) (b : VL → RSU) : List U → RF := fun us => if us.length = np then (match b (us.map some ++ List.replicate (N - us.length) none) with
  | .ret u _ => .ok u .non
  | .nx _ => .ok .non .non
  | .exc c u _ => .exc c u .non
  | _ => .bad) else .bad
def fnM (j np N : Nat) (b : VL → RSU) : List U → RF := fun us => if us.length = np then (match b (us.map some ++ List.replicate (N - us.length) none) with
  | .ret u v => (match outO j v with | some o => .ok u o | none => .bad)
  | .nx v => (match outO j v with | some o => .ok .non o | none => .bad)
  | .exc c u v => (match outO j v with | some o => .exc c u o | none => .bad)
  | _ => .bad) else .bad
section
variable {C : Ct} {md : Bool} {c c1 : Cf} {E E1 K K1 B : Pr} {l : Lo} {vl : VL} {s : S} {Fs : Nat → List Nat}
theorem Ds.split {us : List U} {ws : List W} {F : List Nat} (h : Ds c E B us ws F) (nd : F.Nodup) : ∃ Fs : Nat → List Nat, (∀ (i : Nat) (u : U), us[i]? = some u → ∃ w, ws[i]? = some w ∧ D c E B u w (Fs i)) ∧ (∀ i, (Fs i).Nodup) ∧ (∀ i a, a ∈ Fs i → a ∈ F) ∧ (∀ i j a, a ∈ Fs i → a ∈ Fs j → i = j) := by
  induction h with
  | nil => exact ⟨fun _ => [], fun i u h => by simp at h, fun _ => List.nodup_nil, fun i a h => by simp at h, fun i j a h => by simp at h⟩
  | @cons u w us ws F F' d r ih =>
    have nd2 := List.nodup_append.mp nd
    obtain ⟨Fs, h1, h2, h3, h4⟩ := ih nd2.2.1
    refine ⟨fun i => match i with | 0 => F | i + 1 => Fs i, fun i u' h => ?_, fun i => ?_, fun i a h => ?_, fun i j a h h' => ?_⟩
    · cases i with
      | zero => simp at h; subst h; exact ⟨w, rfl, d⟩
      | succ i =>
        obtain ⟨w', g1, g2⟩ := h1 i u' (by simpa using h)
        exact ⟨w', by simpa using g1, g2⟩
    · cases i with
      | zero => exact nd2.1
      | succ i => exact h2 i
    · cases i with
      | zero => exact List.mem_append_left _ h
      | succ i => exact List.mem_append_right _ (h3 i a h)
    · cases i with
      | zero =>
        cases j with
        | zero => rfl
        | succ j => exact absurd rfl (nd2.2.2 a h a (h3 j a h'))
      | succ i =>
        cases j with
        | zero => exact absurd rfl (nd2.2.2 a h' a (h3 i a h))
        | succ j => rw [h4 i j a h h']
theorem SL.start {C : Ct} {us : List U} {ws : List W} {F : List Nat} {N : Nat} (d : Ds (rd C.p ⟨[], []⟩) E B us ws F) (nd : F.Nodup) (hk : ∀ a ∈ F, ¬ K a) (ev : ∀ n, rd C.p ⟨[], []⟩ n = none → E n) (bk : ∀ n, B n → K n) (ka : ∀ n, K n → rd C.p ⟨[], []⟩ n ≠ none ∧ E n) (ha : C.aux = []) (hm : ∀ w, C.mp = some w → ws[C.mi]? = some w) :
    ∃ Fs, SL C true (rd C.p ⟨[], []⟩) E K B (us.map some ++ List.replicate (N - us.length) none) (ws.map some ++ List.replicate (N - ws.length) none) Fs := by
  obtain ⟨Fs, h1, h2, h3, h4⟩ := d.split nd
  refine ⟨Fs, by simp [d.len], fun i u h => ?_, fun _ => ⟨fun i => ⟨h2 i, fun a m => hk a (h3 i a m)⟩, h4⟩, fun m => (nomatch m), fun i a m => ⟨d.alive a (h3 i a m), d.own a (h3 i a m)⟩, fun u w m => absurd m (by rw [ha]; simp), fun w e => ?_, ev, bk, ka⟩
  · by_cases hi : i < us.length
    · rw [List.getElem?_append_left (by simpa using hi), List.getElem?_map] at h
      cases q : us[i]? with
      | none => rw [q] at h; cases h
      | some u' =>
        rw [q] at h
        cases h
        obtain ⟨w, g1, g2⟩ := h1 i u q
        refine ⟨w, ?_, g2⟩
        rw [List.getElem?_append_left (by simpa [← d.len] using hi), List.getElem?_map, g1]
        rfl
    · rw [List.getElem?_append_right (by simpa using Nat.le_of_not_lt hi)] at h
      have := List.eq_of_mem_replicate (List.mem_of_getElem? h)
      cases this
  · have g := hm w e
    have hi : C.mi < ws.length := (List.getElem?_eq_some_iff.mp g).1
    rw [List.getElem?_append_left (by simpa using hi), List.getElem?_map, g]
    rfl
theorem sim_fn {np N : Nat} {b : VL → RSU} {mb : Hh → Lo → S → RS} (h : ∀ C : Ct, C.mp = none → SimS C b (mb C.p)) : SimF none (fnV np N b) (CC.fnI np N mb) := fun p us ws E K B Fx d nd hk ev bk ka => by
  unfold fnV CC.fnI CC.fnI.fnB CC.gcS
  rw [← d.len]
  by_cases hl : us.length = np
  · rw [if_pos hl, if_pos hl]
    obtain ⟨Fs, r⟩ := SL.start (C := ⟨p, [], none, 0⟩) (N := N) d nd hk ev bk ka rfl (fun w e => (nomatch e))
    rw [← d.len] at r
    have q := h ⟨p, [], none, 0⟩ rfl _ _ _ E K B Fs r
    cases e : b (us.map some ++ List.replicate (N - us.length) none) with
    | ret u v =>
      rw [e] at q
      obtain ⟨w, l, s, E', F, Fs', e2, k, r2, d2, f⟩ := q
      rw [e2]
      exact ⟨w, s, E', F, [], rfl, k, r2.ev, d2, by simpa using f.1, fun a m => (f.2 a (by simpa using m)).1, fun j z => (nomatch z)⟩
    | nx v =>
      rw [e] at q
      obtain ⟨l, s, E', Fs', e2, k, r2⟩ := q
      rw [e2]
      exact ⟨.non, s, E', [], [], rfl, k, r2.ev, d_non, by simp, no, fun j z => (nomatch z)⟩
    | exc k u v =>
      rw [e] at q
      obtain ⟨w, l, s, E', Fs', e2, k, r2, d2⟩ := q
      rw [e2]
      exact ⟨w, s, E', [], rfl, k, r2.ev, d2, by simp, no, fun j z => (nomatch z)⟩
    | brk v => trivial
    | ct v => trivial
    | bad => trivial
  · rw [if_neg hl]; trivial
theorem outO_ok {C : Ct} {v : VL} {o : U} (h : outO C.mi v = some o) (r : SL C true c E K B v l Fs) {w0 : W} (e : C.mp = some w0) : D c E nB o w0 (Fs C.mi) := by
  unfold outO at h
  split at h
  · rename_i u0 hu
    split at h
    · rename_i q
      cases h
      obtain ⟨w, h1, h2⟩ := r.has C.mi _ hu
      rw [r.mpk w0 e] at h1
      cases h1
      exact h2.noB q
    · cases h
  · cases h
theorem sim_fnM {j np N : Nat} {b : VL → RSU} {mb : Hh → Lo → S → RS} (h0 : j < np) (h : ∀ C : Ct, C.mi = j → SimS C b (mb C.p)) : SimF (some j) (fnM j np N b) (CC.fnI np N mb) := fun p us ws E K B Fx d nd hk ev bk ka => by
  unfold fnM CC.fnI CC.fnI.fnB CC.gcS
  rw [← d.len]
  by_cases hl : us.length = np
  · rw [if_pos hl, if_pos hl]
    obtain ⟨Fs, r⟩ := SL.start (C := ⟨p, [], ws[j]?, j⟩) (N := N) d nd hk ev bk ka rfl (fun w e => e)
    rw [← d.len] at r
    have q := h ⟨p, [], ws[j]?, j⟩ rfl _ _ _ E K B Fs r
    have hw : ∀ {v l c E Fs o}, outO j v = some o → SL ⟨p, [], ws[j]?, j⟩ true c E K B v l Fs → ∀ i, some j = some i → ∃ w0, ws[i]? = some w0 ∧ D c E nB o w0 (Fs j) := fun {v l c E Fs o} ho r i ei => by
      cases ei
      cases e : ws[j]? with
      | some w0 => exact ⟨w0, rfl, outO_ok (C := ⟨p, [], ws[j]?, j⟩) ho r e⟩
      | none =>
        have := List.getElem?_eq_none_iff.mp e
        have := d.len
        omega
    cases e : b (us.map some ++ List.replicate (N - us.length) none) with
    | ret u v =>
      rw [e] at q
      obtain ⟨w, l, s, E', F, Fs', e2, k, r2, d2, f⟩ := q
      rw [e2]
      dsimp only
      cases e3 : outO j v with
      | none => trivial
      | some o =>
        have o0 := (r2.own rfl).1 j
        exact ⟨w, s, E', F, Fs' j, rfl, k, r2.ev, d2, List.nodup_append.mpr ⟨f.1, o0.1, fun a h b h2 e => (f.2 a h).2 j (e ▸ h2)⟩, fun a m => (List.mem_append.mp m).elim (fun m => (f.2 a m).1) (o0.2 a), hw e3 r2⟩
    | nx v =>
      rw [e] at q
      obtain ⟨l, s, E', Fs', e2, k, r2⟩ := q
      rw [e2]
      dsimp only
      cases e3 : outO j v with
      | none => trivial
      | some o =>
        have o0 := (r2.own rfl).1 j
        exact ⟨.non, s, E', [], Fs' j, rfl, k, r2.ev, d_non, o0.1, o0.2, hw e3 r2⟩
    | exc k u v =>
      rw [e] at q
      obtain ⟨w, l, s, E', Fs', e2, k, r2, d2⟩ := q
      rw [e2]
      dsimp only
      cases e3 : outO j v with
      | none => trivial
      | some o =>
        have o0 := (r2.own rfl).1 j
        exact ⟨w, s, E', Fs' j, rfl, k, r2.ev, d2, o0.1, o0.2, hw e3 r2⟩
    | brk v => trivial
    | ct v => trivial
    | bad => trivial
  · rw [if_neg hl]; trivial
end
section
variable {C : Ct} {md : Bool} {c c1 : Cf} {E E1 K K1 B : Pr} {l : Lo} {vl : VL} {s : S} {Fs : Nat → List Nat}
theorem SL.after {E1 : Pr} (r : SL C md c E K B vl l Fs) (k : Keep c E (fun n => K n ∨ ∃ i, n ∈ Fs i) c1 E1) (ev : ∀ n, c1 n = none → E1 n) : SL C md c1 E1 K B vl l Fs :=
  ⟨r.len, fun i u h => by
    obtain ⟨w, h1, h2⟩ := r.has i u h
    exact ⟨w, h1, h2.mono k (fun n h => .inl (r.bk n h)) fun a m => .inr ⟨i, m⟩⟩, r.own, r.bor, fun i a h => ⟨k.al a (r.ex i a h).1, (k.kp a (.inr ⟨i, h⟩)).2 (r.ex i a h).2⟩, fun u w h => (r.ax u w h).mono k (fun n h => .inl (r.bk n h)) no, r.mpk, ev, r.bk, fun n h => ⟨k.al n (r.ka n h).1, (k.kp n (.inl h)).2 (r.ka n h).2⟩⟩
def ofF (r : RF) (v : VL) : RU U := match r with
  | .ok u _ => .ok u v
  | .exc c u _ => .exc c u v
  | .bad => .bad
theorem mat_fun {p : Hh} {s : S} : rd (CC.mat p s) ⟨[], []⟩ = rd p s := funext fun n => CC.rd_mat
theorem mrg_fun {p : Hh} {s s' : S} : rd p (CC.mrg p s s') = rd (CC.mat p s) s' := funext fun n => CC.rd_mrg
theorem callF_ok {F : List U → RF} {m : Hh → List W → R W} (hF : SimF none F m) {us : List U} {ws : List W} {Fx : List Nat} {v : VL} (r : SL C md (rd C.p s) E K B v l Fs) (d : Ds (rd C.p s) E B us ws Fx) (f : Fr Fx K Fs) : Aft C md (rd C.p s) E K B l D (ofF (F us) v) (CC.callF m C.p ws s) := by
  have q := hF (CC.mat C.p s) us ws E (fun n => K n ∨ ∃ i, n ∈ Fs i) B Fx (by rw [mat_fun]; exact d) f.1 (fun a m h => h.elim (f.2 a m).1 fun ⟨i, h⟩ => (f.2 a m).2 i h) (by rw [mat_fun]; exact r.ev) (fun n h => .inl (r.bk n h)) (by rw [mat_fun]; exact fun n h => h.elim (r.ka n) fun ⟨i, h⟩ => r.ex i n h)
  rw [mat_fun] at q
  unfold CC.callF
  cases e : F us with
  | ok u o =>
    rw [e] at q
    obtain ⟨w, s', E', F', Fo, e2, k, ev, d2, nd, nk, _⟩ := q
    rw [e2]
    have nd1 := (List.nodup_append.mp nd).1
    refine ⟨w, CC.mrg C.p s s', E', F', Fs, rfl, ?_⟩
    rw [mrg_fun]
    exact ⟨k.weak fun n h => .inl h, r.after k ev, d2.in (fun _ h => h.elim), nd1, fun a m => ⟨fun h => nk a (List.mem_append_left _ m) (.inl h), fun i h => nk a (List.mem_append_left _ m) (.inr ⟨i, h⟩)⟩⟩
  | exc k u o =>
    rw [e] at q
    obtain ⟨w, s', E', Fo, e2, k, ev, d2, _⟩ := q
    rw [e2]
    refine ⟨w, CC.mrg C.p s s', E', Fs, rfl, ?_⟩
    rw [mrg_fun]
    exact ⟨k.weak fun n h => .inl h, r.after k ev, d2⟩
  | bad => trivial
end
def eCall (F : List U → RF) (ds : List U) (mr : VL → RU (List U)) : VL → RU U := fun v => (mr v).bind fun us v1 => ofF (F (us ++ ds)) v1
def isCU (k : Nat) : U → Bool
  | .ins _ d _ => d == k
  | _ => false
def eMeth (k : Nat) (F : List U → RF) (ds : List U) (mo : VL → RU U) (mr : VL → RU (List U)) : VL → RU U := fun v => (mo v).bind fun o v1 => match isCU k o with
  | true => (mr v1).bind fun us v2 => ofF (F (o :: (us ++ ds))) v2
  | false => .bad
def backM (i : Nat) (r : RF) (v : VL) : RU U := match r with
  | .ok u o => .ok u (v.set i (some o))
  | .exc c u o => .exc c u (v.set i (some o))
  | .bad => .bad
def eCallM (i : Nat) (F : List U → RF) (ds : List U) (mr : VL → RU (List U)) : VL → RU U := fun v => match v[i]? with
  | some (some _) => (mr v).bind fun us v1 => (match v1[i]? with
    | some (some o) => backM i (F (o :: (us ++ ds))) v1
    | _ => .bad)
  | _ => .bad
def eCallM1 (i : Nat) (F : List U → RF) (ds : List U) (m0 : VL → RU U) (mr : VL → RU (List U)) : VL → RU U := fun v => (m0 v).bind fun x v0 => match v0[i]? with
  | some (some _) => (mr v0).bind fun us v1 => (match v1[i]? with
    | some (some o) => backM i (F (x :: o :: (us ++ ds))) v1
    | _ => .bad)
  | _ => .bad
def makeO (r : RF) (v : VL) : RU U := match r with
  | .ok .non o => .ok o v
  | .exc c u _ => .exc c u v
  | _ => .bad
def eMakeM (k : Nat) (F : List U → RF) (ds : List U) (mr : VL → RU (List U)) : VL → RU U := fun v => (mr v).bind fun us v1 => makeO (F (.ins .o k [] :: (us ++ ds))) v1
def DsC (ds : List U) (dw : List W) : Prop := ∀ c E B, Ds c E B ds dw []
theorem dsc_nil : DsC [] [] := fun _ _ _ => .nil
theorem dsc_int {i : Int} {ds : List U} {dw : List W} (h : DsC ds dw) : DsC (.int i :: ds) (.int i :: dw) := fun c E B => .cons (F := []) d_int (h c E B)
section
variable {C : Ct} {md : Bool} {c c1 : Cf} {E E1 K K1 B : Pr} {l : Lo} {vl : VL} {s : S} {Fs : Nat → List Nat}
theorem Ds.app {us us' : List U} {ws ws' : List W} {F F' : List Nat} (h : Ds c E B us ws F) (h' : Ds c E B us' ws' F') : Ds c E B (us ++ us') (ws ++ ws') (F ++ F') := by
  induction h with
  | nil => exact h'
  | cons d r ih => rw [List.append_assoc]; exact .cons d ih
theorem sim_call {F : List U → RF} {m : Hh → List W → R W} {ds : List U} {dw : List W} {a : VL → RU (List U)} {ma : Lo → S → R (List W)} (hF : SimF none F m) (hd : DsC ds dw) (ha : SimA C md a ma) : SimE C md (eCall F ds a) (CC.eCall m C.p dw ma) := fun s l vl E K B Fs r => by
  refine (ha s l vl E K B Fs r).bind r.bk fun us v ws s2 E2 F1 Fs2 k2 r2 d f => ?_
  have d2 := d.app (hd (rd C.p s2) E2 B)
  rw [List.append_nil] at d2
  exact (callF_ok hF r2 d2 f).then k2
theorem callM_ok {j0 : Nat} {F : List U → RF} {m : Hh → List W → R W} (hF : SimF (some j0) F m) {i : Nat} {o : U} {w0 : W} {pre us : List U} {wpre ws : List W} {Fp Fx : List Nat} {v : VL} (hj : pre.length = j0) (r : SL C true (rd C.p s) E K B v l Fs) (ho : v[i]? = some (some o)) (hw : l[i]? = some (some w0)) (dp : Ds (rd C.p s) E B pre wpre Fp) (d : Ds (rd C.p s) E B us ws Fx) (f : Fr (Fp ++ Fx) K Fs) : Aft C true (rd C.p s) E K B l D (backM i (F (pre ++ o :: us)) v) (CC.callF m C.p (wpre ++ w0 :: ws) s) := by
  obtain ⟨w, h1, h2⟩ := r.has i o ho
  rw [hw] at h1
  cases h1
  have oi := (r.own rfl).1 i
  have fn := List.nodup_append.mp f.1
  have hwj : (wpre ++ w0 :: ws)[j0]? = some w0 := by
    rw [List.getElem?_append_right (by rw [← dp.len, hj]; exact Nat.le_refl _), ← dp.len, hj]; simp
  have od : ∀ j, j ≠ i → ∀ a, a ∈ Fs j → a ∉ Fs i := fun j e a h h2 => e ((r.own rfl).2 j i a h h2)
  have q := hF (CC.mat C.p s) (pre ++ o :: us) (wpre ++ w0 :: ws) E (fun n => K n ∨ ∃ j, j ≠ i ∧ n ∈ Fs j) B (Fp ++ (Fs i ++ Fx)) (by rw [mat_fun]; exact dp.app (.cons h2 d)) (List.nodup_append.mpr ⟨fn.1, List.nodup_append.mpr ⟨oi.1, fn.2.1, fun a h b h2 e => (f.2 b (List.mem_append_right _ h2)).2 i (e ▸ h)⟩, fun a h b h2 e => (List.mem_append.mp h2).elim (fun h2 => (f.2 a (List.mem_append_left _ h)).2 i (e ▸ h2)) fun h2 => fn.2.2 a h b h2 e⟩)
    (fun a m h => by
      rcases List.mem_append.mp m with m | m
      · exact h.elim (f.2 a (List.mem_append_left _ m)).1 fun ⟨j, e, h⟩ => (f.2 a (List.mem_append_left _ m)).2 j h
      rcases List.mem_append.mp m with m | m
      · exact h.elim (oi.2 a m) fun ⟨j, e, h⟩ => od j e a h m
      · exact h.elim (f.2 a (List.mem_append_right _ m)).1 fun ⟨j, e, h⟩ => (f.2 a (List.mem_append_right _ m)).2 j h) (by rw [mat_fun]; exact r.ev) (fun n h => .inl (r.bk n h)) (by rw [mat_fun]; exact fun n h => h.elim (r.ka n) fun ⟨j, _, h⟩ => r.ex j n h)
  rw [mat_fun] at q
  -- without the slot i
  have r0 := r.put i none w0 l rfl (fun _ _ => rfl) (fun u z => (nomatch z)) r.mpk List.nodup_nil no
  have fs0 : ∀ n, (∃ j, n ∈ upF Fs i [] j) → ∃ j, j ≠ i ∧ n ∈ Fs j := fun n ⟨j, h⟩ => by
    by_cases e : j = i
    · rw [e, upF_same] at h; cases h
    · rw [upF_ne e] at h; exact ⟨j, e, h⟩
  have back : ∀ {c2 : Cf} {E2 : Pr} {o' : U} {Fo : List Nat}, Keep (rd C.p s) E (fun n => K n ∨ ∃ j, j ≠ i ∧ n ∈ Fs j) c2 E2 → (∀ n, c2 n = none → E2 n) → D c2 E2 nB o' w0 Fo → Fo.Nodup → (∀ a ∈ Fo, ¬ (K a ∨ ∃ j, j ≠ i ∧ a ∈ Fs j)) → SL C true c2 E2 K B (v.set i (some o')) l (upF (upF Fs i []) i Fo) := fun {c2 E2 o' Fo} k ev d' nd nk => by
    have r1 := r0.after (k.weak fun n h => h.imp id (fs0 n)) ev
    have r2 := r1.put i (some o') w0 l rfl (fun _ _ => rfl) (fun u z _ => by cases z; exact ⟨hw, d'.in fun _ h => h.elim⟩) r.mpk nd fun a m => ⟨d'.alive a m, d'.own a m, fun _ => ⟨fun h => nk a m (.inl h), fun j e h => nk a m (.inr (fs0 a ⟨j, h⟩))⟩, fun z => (nomatch z)⟩
    rw [List.set_set] at r2
    exact r2
  unfold CC.callF
  cases e : F (pre ++ o :: us) with
  | ok u o' =>
    rw [e] at q
    obtain ⟨w, s', E', F', Fo, e2, k, ev, d2, nd, nk, hm⟩ := q
    obtain ⟨w1, e3, dO⟩ := hm _ rfl
    rw [hwj] at e3
    cases e3
    rw [e2]
    have nd1 := List.nodup_append.mp nd
    refine ⟨w, CC.mrg C.p s s', E', F', upF (upF Fs i []) i Fo, rfl, ?_⟩
    rw [mrg_fun]
    refine ⟨k.weak fun n h => .inl h, back k ev dO nd1.2.1 (fun a m => nk a (List.mem_append_right _ m)), d2.in (fun _ h => h.elim), nd1.1, fun a m => ⟨fun h => nk a (List.mem_append_left _ m) (.inl h), fun j h => ?_⟩⟩
    by_cases e : j = i
    · rw [e, upF_same] at h; exact nd1.2.2 a m a h rfl
    · rw [upF_ne e] at h
      exact nk a (List.mem_append_left _ m) (.inr (fs0 a ⟨j, h⟩))
  | exc k u o' =>
    rw [e] at q
    obtain ⟨w, s', E', Fo, e2, k, ev, d2, nd, nk, hm⟩ := q
    obtain ⟨w1, e3, dO⟩ := hm _ rfl
    rw [hwj] at e3
    cases e3
    rw [e2]
    refine ⟨w, CC.mrg C.p s s', E', upF (upF Fs i []) i Fo, rfl, ?_⟩
    rw [mrg_fun]
    exact ⟨k.weak fun n h => .inl h, back k ev dO nd nk, d2⟩
  | bad => trivial
theorem sim_callM {i : Nat} {F : List U → RF} {m : Hh → List W → R W} {ds : List U} {dw : List W} {a : VL → RU (List U)} {ma : Lo → S → R (List W)} (hF : SimF (some 0) F m) (hd : DsC ds dw) (ha : SimA C true a ma) : SimE C true (eCallM i F ds a) (CC.eCall m C.p dw (CC.aCons (CC.eVar i) ma)) := fun s l vl E K B Fs r => by
  unfold eCallM
  split
  · rename_i o0 ho0
    obtain ⟨w0, hw, _⟩ := r.has i o0 ho0
    have e4 : CC.eCall m C.p dw (CC.aCons (CC.eVar i) ma) l s = (ma l s).bind fun ws s2 => CC.callF m C.p (w0 :: (ws ++ dw)) s2 := by
      unfold CC.eCall CC.aCons
      rw [var_ok hw]
      show ((ma l s).bind _).bind _ = _
      cases ma l s <;> rfl
    rw [e4]
    refine (ha s l vl E K B Fs r).bind r.bk fun us v ws s2 E2 F1 Fs2 k2 r2 d f => ?_
    split
    · rename_i o ho
      have d3 := d.app (hd (rd C.p s2) E2 B)
      rw [List.append_nil] at d3
      exact (callM_ok (pre := []) (wpre := []) (Fp := []) hF rfl r2 ho hw .nil d3 f).then k2
    · trivial
  · trivial
end
end CV
set_option Elab.async false
set_option linter.all false
set_option maxRecDepth 100000
namespace CV
open PySem PySem.Spec PyProof.Rows L2
open CC (W Ob S Hh Lo R RS rd wr al nxt ItD i64 mapO)
def isSc : U → Option W
  | .non => some .non
  | .bl b => some (.bl b)
  | .int i => some (.int i)
  | .str z => some (.str z)
  | _ => none
theorem sc_d {c : Cf} {E B : Pr} {u : U} {w : W} (h : isSc u = some w) : D c E B u w [] := by
  cases u with
  | non => cases h; exact d_non
  | bl b => cases h; exact d_bl
  | int i => cases h; exact d_int
  | str z => cases h; exact d_str
  | _ => cases h
theorem op2_sc {f : Hh → W → W → S → CC.O2} {g : U → U → Option U} (h : ∀ {p : Hh} {s : S} {E B : Pr} {x y u : U} {wx wy : W} {Fx Fy : List Nat}, D (rd p s) E B x wx Fx → D (rd p s) E B y wy Fy → g x y = some u → ∃ w, isSc u = some w ∧ f p wx wy s = some (w, s)) : Op2 f g := fun dx dy ev nd e => by
  obtain ⟨w, h1, h2⟩ := h dx dy e
  exact ⟨w, _, [], h2, .rfl', fun _ h => h, sc_d h1, List.nodup_nil, no⟩
theorem op1_sc {f : Hh → W → S → CC.O2} {g : U → Option U} (h : ∀ {p : Hh} {s : S} {E B : Pr} {x u : U} {wx : W} {Fx : List Nat}, D (rd p s) E B x wx Fx → g x = some u → ∃ w, isSc u = some w ∧ f p wx s = some (w, s)) : Op1 f g := fun dx ev nd e => by
  obtain ⟨w, h1, h2⟩ := h dx e
  exact ⟨w, _, [], h2, .rfl', fun _ h => h, sc_d h1, List.nodup_nil, no⟩
theorem opN_sc {f : Hh → List W → S → CC.O2} {g : List U → Option U} (h : ∀ {p : Hh} {s : S} {E B : Pr} {xs : List U} {u : U} {ws : List W} {Fx : List Nat}, Ds (rd p s) E B xs ws Fx → g xs = some u → ∃ w, isSc u = some w ∧ f p ws s = some (w, s)) : OpN f g := fun dx ev nd e => by
  obtain ⟨w, h1, h2⟩ := h dx e
  exact ⟨w, _, [], h2, .rfl', fun _ h => h, sc_d h1, List.nodup_nil, no⟩
def gSub (x y : U) : Option U := match x, y with
  | .int i, .int j => some (.int (i - j))
  | _, _ => none
def gFdiv (x y : U) : Option U := match x, y with
  | .int i, .int j => if 0 < j ∧ j < 1606938044258990275541962092341162602522202993782792835301376 then some (.int (i / j)) else none
  | _, _ => none
def gMod (x y : U) : Option U := match x, y with
  | .int i, .int j => if 0 < j then some (.int (i % j)) else none
  | _, _ => none
def gPow (x y : U) : Option U := match x, y with
  | .int i, .int j => if 0 ≤ j ∧ j ≤ 1000000 ∧ i.natAbs < 2 ^ 64 then some (.int (i ^ j.toNat)) else none
  | _, _ => none
def gNeg (x : U) : Option U := match x with
  | .int i => some (.int (-i))
  | _ => none
def gLe (x y : U) : Option U := match x, y with
  | .int i, .int j => some (.bl (decide (i ≤ j)))
  | _, _ => none
def gGt (x y : U) : Option U := match x, y with
  | .int i, .int j => some (.bl (decide (j < i)))
  | _, _ => none
def gGe (x y : U) : Option U := match x, y with
  | .int i, .int j => some (.bl (decide (j ≤ i)))
  | _, _ => none
def isIntsU : List U → Option (List Int)
  | [] => some []
  | .int i :: r => (isIntsU r).map (i :: ·)
  | _ => none
def gLt (x y : U) : Option U := match x, y with
  | .int i, .int j => some (.bl (decide (i < j)))
  | .tup a, .tup b => (match isIntsU a, isIntsU b with | some ns, some ms => some (.bl (HT.lexLt ns ms)) | _, _ => none)
  | _, _ => none
def isNonU : U → Bool
  | .non => true
  | _ => false
def gIs (x y : U) : Option U := match y with
  | .non => some (.bl (isNonU x))
  | .bl b => (match x with | .bl a => some (.bl (decide (a = b))) | _ => none)
  | _ => none
def gIsN (x y : U) : Option U := match y with
  | .non => some (.bl (!isNonU x))
  | .bl b => (match x with | .bl a => some (.bl (!decide (a = b))) | _ => none)
  | _ => none
section
variable {c : Cf} {E B : Pr} {u : U} {w : W} {F : List Nat}
theorem isInts_ok {us : List U} {ns : List Int} : ∀ {ws : List W} {F : List Nat}, Ds c E B us ws F → isIntsU us = some ns → CC.isInts ws = some ns := by
  induction us generalizing ns with
  | nil => intro ws F d h; cases d; exact h
  | cons u us ih =>
    intro ws F d h
    cases d with
    | cons d r =>
      cases u with
      | int i =>
        obtain rfl := d.is_int
        unfold isIntsU at h
        unfold CC.isInts
        cases q : isIntsU us with
        | none => rw [q] at h; cases h
        | some ms => rw [q] at h; cases h; rw [ih r q]; rfl
      | _ => cases h
theorem isNon_ok (d : D c E B u w F) : CC.isNon w = isNonU u := by
  rcases d.node with rfl | ⟨_, rfl⟩ | ⟨_, rfl⟩ | ⟨_, rfl⟩ | ⟨us, rfl⟩ | ⟨z', us', n, ob, ws, F0, T0, rfl, e, k, r, f⟩
  · obtain rfl := d.is_non; rfl
  · obtain rfl := d.is_bl; rfl
  · obtain rfl := d.is_int; rfl
  · obtain rfl := d.is_str; rfl
  · obtain ⟨_, ws, rfl, _⟩ := d.is_tup; rfl
  · cases k <;> rfl
end
theorem x_gSub : Op2 CC.gSub gSub := by
  refine op2_sc fun {p s E B x y u wx wy Fx Fy} dx dy e => ?_
  cases x <;> first | cases e | skip
  cases y <;> first | cases e | skip
  obtain rfl := dx.is_int
  obtain rfl := dy.is_int
  exact ⟨_, rfl, rfl⟩
theorem x_gLe : Op2 CC.gLe gLe := by
  refine op2_sc fun {p s E B x y u wx wy Fx Fy} dx dy e => ?_
  cases x <;> first | cases e | skip
  cases y <;> first | cases e | skip
  obtain rfl := dx.is_int
  obtain rfl := dy.is_int
  exact ⟨_, rfl, rfl⟩
theorem x_gGt : Op2 CC.gGt gGt := by
  refine op2_sc fun {p s E B x y u wx wy Fx Fy} dx dy e => ?_
  cases x <;> first | cases e | skip
  cases y <;> first | cases e | skip
  obtain rfl := dx.is_int
  obtain rfl := dy.is_int
  exact ⟨_, rfl, rfl⟩
theorem x_gGe : Op2 CC.gGe gGe := by
  refine op2_sc fun {p s E B x y u wx wy Fx Fy} dx dy e => ?_
  cases x <;> first | cases e | skip
  cases y <;> first | cases e | skip
  obtain rfl := dx.is_int
  obtain rfl := dy.is_int
  exact ⟨_, rfl, rfl⟩
theorem x_gFdiv : Op2 CC.gFdiv gFdiv := by
  refine op2_sc fun {p s E B x y u wx wy Fx Fy} dx dy e => ?_
  cases x <;> first | cases e | skip
  cases y <;> first | cases e | skip
  obtain rfl := dx.is_int
  obtain rfl := dy.is_int
  unfold gFdiv at e
  unfold CC.gFdiv
  dsimp only at e ⊢
  split at e
  · rename_i h
    cases e
    rw [if_pos h]
    exact ⟨_, rfl, rfl⟩
  · cases e
theorem x_gMod : Op2 CC.gMod gMod := by
  refine op2_sc fun {p s E B x y u wx wy Fx Fy} dx dy e => ?_
  cases x <;> first | cases e | skip
  cases y <;> first | cases e | skip
  obtain rfl := dx.is_int
  obtain rfl := dy.is_int
  unfold gMod at e
  unfold CC.gMod
  dsimp only at e ⊢
  split at e
  · rename_i h
    cases e
    rw [if_pos h]
    exact ⟨_, rfl, rfl⟩
  · cases e
theorem x_gPow : Op2 CC.gPow gPow := by
  refine op2_sc fun {p s E B x y u wx wy Fx Fy} dx dy e => ?_
  cases x <;> first | cases e | skip
  cases y <;> first | cases e | skip
  obtain rfl := dx.is_int
  obtain rfl := dy.is_int
  unfold gPow at e
  unfold CC.gPow
  dsimp only at e ⊢
  split at e
  · rename_i h
    cases e
    rw [if_pos h]
    exact ⟨_, rfl, rfl⟩
  · cases e
theorem x_gNeg : Op1 CC.gNeg gNeg := by
  refine op1_sc fun {p s E B x u wx Fx} dx e => ?_
  cases x <;> first | cases e | skip
  obtain rfl := dx.is_int
  exact ⟨_, rfl, rfl⟩
theorem x_gLt : Op2 CC.gLt gLt := by
  refine op2_sc fun {p s E B x y u wx wy Fx Fy} dx dy e => ?_
  cases x with
  | int i =>
    cases y with
    | int j =>
      obtain rfl := dx.is_int
      obtain rfl := dy.is_int
      cases e
      exact ⟨_, rfl, rfl⟩
    | _ => cases e
  | tup a =>
    cases y with
    | tup b =>
      obtain ⟨_, ws, rfl, d1⟩ := dx.is_tup
      obtain ⟨_, ws2, rfl, d2⟩ := dy.is_tup
      unfold gLt at e
      unfold CC.gLt
      dsimp only at e ⊢
      cases q : isIntsU a with
      | none => rw [q] at e; cases e
      | some ns =>
        cases q2 : isIntsU b with
        | none => rw [q, q2] at e; cases e
        | some ms =>
          rw [q, q2] at e
          rw [isInts_ok d1 q, isInts_ok d2 q2]
          cases e
          exact ⟨_, rfl, rfl⟩
    | _ => cases e
  | _ => cases e
theorem x_gIs : Op2 CC.gIs gIs := by
  refine op2_sc fun {p s E B x y u wx wy Fx Fy} dx dy e => ?_
  cases y with
  | non =>
    obtain rfl := dy.is_non
    cases e
    refine ⟨_, rfl, ?_⟩
    show some (W.bl (CC.isNon wx), s) = _
    rw [isNon_ok dx]
  | bl b =>
    cases x with
    | bl a =>
      obtain rfl := dx.is_bl
      obtain rfl := dy.is_bl
      cases e
      exact ⟨_, rfl, rfl⟩
    | _ => cases e
  | _ => cases e
theorem x_gIsN : Op2 CC.gIsN gIsN := by
  refine op2_sc fun {p s E B x y u wx wy Fx Fy} dx dy e => ?_
  cases y with
  | non =>
    obtain rfl := dy.is_non
    cases e
    refine ⟨_, rfl, ?_⟩
    show some (W.bl (!CC.isNon wx), s) = _
    rw [isNon_ok dx]
  | bl b =>
    cases x with
    | bl a =>
      obtain rfl := dx.is_bl
      obtain rfl := dy.is_bl
      cases e
      exact ⟨_, rfl, rfl⟩
    | _ => cases e
  | _ => cases e
def datU : Nat → U → Option PyData
  | _, .non => some .none
  | _, .bl b => some (.bool b)
  | _, .int i => some (.int i)
  | _, .str z => some (.str z)
  | f + 1, .tup us => (match mapO (datU f) us with | some ds => some (.tuple ds) | none => none)
  | f + 1, .lst _ us => (match mapO (datU f) us with | some ds => some (.list ds) | none => none)
  | _ + 1, .frz ns => some (.list (ns.map .int))
  | _ + 1, .dct _ [] => some (.dict [])
  | _, _ => none
def gEqD (x y : U) : Option Bool := match datU 12 x, datU 12 y with
  | some d, some e => if SeqAt.shaped d && SeqAt.shaped e then some (PyData.eqv d e) else none
  | _, _ => none
def gEqB (x y : U) : Option Bool := match x with
  | .int i => (match y with
    | .int j => some (decide (i = j))
    | _ => gEqD x y)
  | _ => gEqD x y
def gEq (x y : U) : Option U := match gEqB x y with
  | some b => some (.bl b)
  | none => none
def gNe (x y : U) : Option U := match gEqB x y with
  | some b => some (.bl (!b))
  | none => none
def fRepr (xs : List U) : Option U := match xs with
  | [x] => (match datU 12 x with
    | some d => if d.showable && (!d.hasDict || CC.noLst d) && decide (d.depth ≤ 40) && decide (d.shown.length ≤ 1000000) then some (.str d.shown) else none
    | none => none)
  | _ => none
def gInB (x y : U) : Option Bool := match datU 12 x, datU 12 y with
  | some d, some (.list ds) => if SeqAt.shaped d && SeqAt.shaped (.list ds) then some (ds.any fun z => PyData.eqv z d) else none
  | some d, some (.tuple ds) => if SeqAt.shaped d && SeqAt.shaped (.tuple ds) then some (ds.any fun z => PyData.eqv z d) else none
  | _, _ => none
section
variable {p : Hh} {s : S} {E B : Pr} {u : U} {w : W} {F T : List Nat}
theorem mapO_ok {f : U → Option PyData} {g : W → Option PyData} {us : List U} (h : ∀ u w F T d, D0 (rd p s) u w F T → f u = some d → g w = some d) : ∀ {ws : List W} {F T : List Nat} {ds : List PyData}, D0s (rd p s) us ws F T → mapO f us = some ds → mapO g ws = some ds := by
  induction us with
  | nil => intro ws F T ds d e; cases d; exact e
  | cons u us ih =>
    intro ws F T ds d e
    cases d with
    | cons d r =>
      unfold mapO at e ⊢
      cases q : f u with
      | none => rw [q] at e; cases e
      | some x =>
        rw [q] at e
        rw [h _ _ _ _ _ d q]
        cases q2 : mapO f us with
        | none => rw [q2] at e; cases e
        | some y => rw [q2] at e; rw [ih r q2]; exact e
theorem nodeDat {z : Fl} {us : List U} {ob : Ob} {ws : List W} {n : Nat} {f : Nat} {d : PyData} (ih : ∀ u w F T d, D0 (rd p s) u w F T → datU f u = some d → CC.datW p s f w = some d) (e : rd p s n = some ob) (k : Sh z u us ob ws) (r : D0s (rd p s) us ws F T) (h : datU (f + 1) u = some d) : CC.datW p s (f + 1) (.ref n) = some d := by
  unfold CC.datW
  rw [e]
  cases k with
  | lst =>
    unfold datU at h
    dsimp only at h ⊢
    cases q : mapO (datU f) us with
    | none => rw [q] at h; cases h
    | some y => rw [q] at h; rw [mapO_ok ih r q]; exact h
  | frz => exact h
  | @dct _ kvs kws hk =>
    cases kvs with
    | nil =>
      cases kws with
      | nil => exact h
      | cons _ _ => cases hk
    | cons _ _ => cases h
  | dtt _ => cases h
  | ins _ => cases h
theorem dat_ok0 : ∀ (f : Nat) (u : U) (w : W) (F T : List Nat) (d : PyData), D0 (rd p s) u w F T → datU f u = some d → CC.datW p s f w = some d
  | 0, u, w, F, T, d, h, e => by
    cases h with
    | non => exact e
    | bl b => exact e
    | int i => exact e
    | str z => exact e
    | tup r => cases e
    | own q k r => exact absurd e (by cases k <;> simp [datU])
    | shr q k r => exact absurd e (by cases k <;> simp [datU])
  | f + 1, u, w, F, T, d, h, e => by
    cases h with
    | non => exact e
    | bl b => exact e
    | int i => exact e
    | str z => exact e
    | @tup us ws T r =>
      unfold datU at e
      unfold CC.datW
      cases q : mapO (datU f) us with
      | none => rw [q] at e; cases e
      | some y => rw [q] at e; rw [mapO_ok (dat_ok0 f) r q]; exact e
    | own q k r => exact nodeDat (dat_ok0 f) q k r e
    | shr q k r => exact nodeDat (dat_ok0 f) q k r e
theorem dat_ok {d : PyData} (h : D (rd p s) E B u w F) (e : datU 12 u = some d) : CC.dat p s w = some d := by
  obtain ⟨T, Z, h, _⟩ := h
  cases h with
  | z h => exact dat_ok0 12 _ _ _ _ _ h e
  | b q k r => exact nodeDat (dat_ok0 11) q k r e
theorem eqD_ok {x y : U} {wx wy : W} {Fx Fy : List Nat} {b : Bool} (dx : D (rd p s) E B x wx Fx) (dy : D (rd p s) E B y wy Fy) (h : gEqD x y = some b) : CC.gEqD p wx wy s = some b := by
  unfold gEqD at h
  unfold CC.gEqD
  cases e : datU 12 x with
  | none => rw [e] at h; cases h
  | some d1 =>
    cases e2 : datU 12 y with
    | none => rw [e, e2] at h; cases h
    | some d2 =>
      rw [e, e2] at h
      rw [dat_ok dx e, dat_ok dy e2]
      exact h
theorem eqB_ok {x y : U} {wx wy : W} {Fx Fy : List Nat} {b : Bool} (dx : D (rd p s) E B x wx Fx) (dy : D (rd p s) E B y wy Fy) (h : gEqB x y = some b) : CC.gEqB p wx wy s = some b := by
  have viaD : gEqD x y = some b → (∀ i j, ¬ (x = .int i ∧ y = .int j)) → CC.gEqB p wx wy s = some b := fun h ne => by
    have q := eqD_ok dx dy h
    unfold CC.gEqB
    split
    · rename_i i
      split
      · rename_i j
        exfalso
        rcases dx.node with rfl | ⟨_, rfl⟩ | ⟨i', rfl⟩ | ⟨_, rfl⟩ | ⟨us, rfl⟩ | ⟨z', us', n, ob, ws, F0, T0, e, _⟩
        · cases dx.is_non
        · cases dx.is_bl
        · rcases dy.node with rfl | ⟨_, rfl⟩ | ⟨j', rfl⟩ | ⟨_, rfl⟩ | ⟨us, rfl⟩ | ⟨z', us', n, ob, ws, F0, T0, e, _⟩
          · cases dy.is_non
          · cases dy.is_bl
          · exact ne i' j' ⟨rfl, rfl⟩
          · cases dy.is_str
          · obtain ⟨_, _, e, _⟩ := dy.is_tup; cases e
          · cases e
        · cases dx.is_str
        · obtain ⟨_, _, e, _⟩ := dx.is_tup; cases e
        · cases e
      · exact q
    · exact q
  unfold gEqB at h
  split at h
  · rename_i i
    split at h
    · rename_i j
      obtain rfl := dx.is_int
      obtain rfl := dy.is_int
      exact h
    · rename_i hne
      exact viaD h fun i' j e => hne j e.2
  · rename_i hne
    exact viaD h fun i' j e => hne i' e.1
theorem x_gEq : Op2 CC.gEq gEq := by
  refine op2_sc fun {p s E B x y u wx wy Fx Fy} dx dy e => ?_
  unfold gEq at e
  unfold CC.gEq
  cases q : gEqB x y with
  | none => rw [q] at e; cases e
  | some b =>
    rw [q] at e
    rw [eqB_ok dx dy q]
    cases e
    exact ⟨_, rfl, rfl⟩
theorem x_gNe : Op2 CC.gNe gNe := by
  refine op2_sc fun {p s E B x y u wx wy Fx Fy} dx dy e => ?_
  unfold gNe at e
  unfold CC.gNe
  cases q : gEqB x y with
  | none => rw [q] at e; cases e
  | some b =>
    rw [q] at e
    rw [eqB_ok dx dy q]
    cases e
    exact ⟨_, rfl, rfl⟩
theorem Ds.one {x : U} {ws : List W} (h : Ds (rd p s) E B [x] ws F) : ∃ w, ws = [w] ∧ D (rd p s) E B x w F := by
  cases h with
  | cons d r => cases r with | nil => rw [List.append_nil]; exact ⟨_, rfl, d⟩
theorem x_fRepr : OpN CC.fRepr fRepr := by
  refine opN_sc fun {p s E B xs u ws Fx} dx e => ?_
  match xs, dx, e with
  | [x], dx, e =>
    obtain ⟨w, rfl, d⟩ := dx.one
    unfold fRepr at e
    unfold CC.fRepr
    dsimp only at e ⊢
    cases q : datU 12 x with
    | none => rw [q] at e; cases e
    | some y =>
      rw [q] at e
      rw [dat_ok d q]
      dsimp only at e ⊢
      split at e
      · rename_i h
        cases e
        rw [if_pos h]
        exact ⟨_, rfl, rfl⟩
      · cases e
  | [], _, e => cases e
  | _ :: _ :: _, _, e => cases e
theorem inB_ok {x y : U} {wx wy : W} {Fx Fy : List Nat} {b : Bool} (dx : D (rd p s) E B x wx Fx) (dy : D (rd p s) E B y wy Fy) (h : gInB x y = some b) : CC.gInB p wx wy s = some b := by
  unfold gInB at h
  unfold CC.gInB
  cases e : datU 12 x with
  | none => rw [e] at h; cases h
  | some d1 =>
    cases e2 : datU 12 y with
    | none => rw [e, e2] at h; cases h
    | some d2 =>
      rw [e, e2] at h
      rw [dat_ok dx e, dat_ok dy e2]
      exact h
end
end CV
set_option Elab.async false
set_option linter.all false
set_option maxRecDepth 100000
namespace CV
open PySem PySem.Spec PyProof.Rows L2
open CC (W Ob S Hh Lo R RS rd wr al nxt ItD i64 mapO)
def itmsU : U → Option (List U)
  | .lst .o us => some us
  | .lst z us => some (us.map (itm z))
  | .tup us => some us
  | .frz ns => some (ns.map U.int)
  | _ => none
def lenU : U → Option Nat
  | .lst _ us => some us.length
  | .tup us => some us.length
  | .frz ns => some ns.length
  | _ => none
def lsU : U → Option (List U)
  | .lst .o us => some us
  | .lst z us => some (us.map (itm z))
  | _ => none
def lfU : U → Option (List U)
  | .lst .o us => some us
  | .lst z us => some (us.map (itm z))
  | .frz ns => some (ns.map U.int)
  | _ => none
section
variable {p : Hh} {s : S} {c : Cf} {E B : Pr} {u : U} {w : W} {us : List U} {ws : List W} {F T F0 T0 : List Nat} {n : Nat}
theorem D0s.get {i : Nat} (r : D0s c us ws F T) (h : us[i]? = some u) : ∃ w F' T', ws[i]? = some w ∧ D0 c u w F' T' ∧ (∀ a ∈ F', a ∈ F) ∧ (∀ a ∈ T', a ∈ T) ∧ (F.Nodup → F'.Nodup) := by
  induction us generalizing ws F T i with
  | nil => simp at h
  | cons x us ih =>
    cases r with
    | @cons _ w _ ws Fa Ta Fb Tb d r =>
      cases i with
      | zero =>
        simp at h
        subst h
        exact ⟨w, Fa, Ta, rfl, d, fun a m => List.mem_append_left _ m, fun a m => List.mem_append_left _ m, fun nd => (List.nodup_append.mp nd).1⟩
      | succ i =>
        obtain ⟨w', F', T', h1, h2, h3, h4, h5⟩ := ih r (by simpa using h)
        exact ⟨w', F', T', by simpa using h1, h2, fun a m => List.mem_append_right _ (h3 a m), fun a m => List.mem_append_right _ (h4 a m), fun nd => h5 (List.nodup_append.mp nd).2.1⟩
theorem D0s.len (r : D0s c us ws F T) : us.length = ws.length := by
  induction us generalizing ws F T with
  | nil => cases r; rfl
  | cons u us ih => cases r with | cons d r => simp [ih r]
theorem Fg.nd {z : Fl} {Fx : List Nat} (g : Fg E B z n F0 T0 Fx) (nd : Fx.Nodup) : z = .o → F0.Nodup := fun h => by
  subst h
  rw [g.1] at nd
  exact (List.nodup_cons.mp nd).2
theorem itm_nil {z : Fl} (h : z ≠ .o) {Fx : List Nat} (r : D0s c us ws F T) (g : Fg E B z n F0 T0 Fx) (hF : ∀ a ∈ F, a ∈ F0) (hT : ∀ a ∈ T, a ∈ T0) : Ds c E B (us.map (itm z)) ws [] := by
  cases z with
  | o => exact absurd rfl h
  | s => exact r.frzd (fun a m => g.2.2.1 a (hF a m)) fun a m => g.2.2.2 a (hT a m)
  | b => exact r.bord (fun a m => g.2.1 a (List.mem_cons_of_mem _ (hF a m))) fun a m => g.2.2 a (hT a m)
theorem lst_items {z : Fl} (d : D (rd p s) E B (.lst z us) w F) (nd : F.Nodup) : ∃ n ws F', w = .ref n ∧ rd p s n = some (.lst ws) ∧ Ds (rd p s) E B (match z with | .o => us | z => us.map (itm z)) ws F' ∧ F'.Nodup ∧ ∀ a ∈ F', a ∈ F := by
  obtain ⟨n, ws, F0, T0, rfl, e, r, g⟩ := d.lst
  by_cases hz : z = .o
  · subst hz
    obtain ⟨rfl, g1, g2⟩ := g
    exact ⟨n, ws, F0, rfl, e, r.to (fun a m => g1 a (List.mem_cons_of_mem _ m)) g2, (List.nodup_cons.mp nd).2, fun a m => List.mem_cons_of_mem _ m⟩
  · have := itm_nil hz r g (fun a h => h) (fun a h => h)
    refine ⟨n, ws, [], rfl, e, ?_, List.nodup_nil, no⟩
    cases z <;> first | exact absurd rfl hz | exact this
theorem lsU_ok {us : List U} (d : D (rd p s) E B u w F) (nd : F.Nodup) (h : lsU u = some us) : ∃ n ws F', w = .ref n ∧ rd p s n = some (.lst ws) ∧ Ds (rd p s) E B us ws F' ∧ F'.Nodup ∧ ∀ a ∈ F', a ∈ F := by
  cases u with
  | lst z us' =>
    obtain ⟨n, ws, F', e1, e2, e3, e4⟩ := lst_items d nd
    refine ⟨n, ws, F', e1, e2, ?_, e4⟩
    cases z <;> (cases h; exact e3)
  | _ => cases h
theorem lfU_ok {us : List U} (d : D (rd p s) E B u w F) (nd : F.Nodup) (h : lfU u = some us) : ∃ n ws F', w = .ref n ∧ CC.cellItems p s n = some ws ∧ Ds (rd p s) E B us ws F' ∧ F'.Nodup ∧ ∀ a ∈ F', a ∈ F := by
  cases u with
  | lst z us' =>
    obtain ⟨n, ws, F', e1, e2, e3, e4⟩ := lst_items d nd
    refine ⟨n, ws, F', e1, by unfold CC.cellItems; rw [e2], ?_, e4⟩
    cases z <;> (cases h; exact e3)
  | frz ns =>
    cases h
    obtain ⟨rfl, n, rfl, e, _⟩ := d.frz_
    exact ⟨n, _, [], rfl, by unfold CC.cellItems; rw [e], ds_ints, List.nodup_nil, no⟩
  | _ => cases h
theorem itmsU_ok {us : List U} (d : D (rd p s) E B u w F) (nd : F.Nodup) (h : itmsU u = some us) : ∃ ws F', CC.seqItems p s w = some ws ∧ Ds (rd p s) E B us ws F' ∧ F'.Nodup ∧ ∀ a ∈ F', a ∈ F := by
  cases u with
  | tup us' =>
    cases h
    obtain ⟨rfl, ws, rfl, ds⟩ := d.is_tup
    exact ⟨ws, [], rfl, ds, List.nodup_nil, no⟩
  | lst z us' =>
    obtain ⟨n, ws, F', rfl, e2, e3⟩ := lfU_ok d nd (us := us) (by cases z <;> exact h)
    exact ⟨ws, F', e2, e3⟩
  | frz ns =>
    obtain ⟨n, ws, F', rfl, e2, e3⟩ := lfU_ok d nd (us := us) h
    exact ⟨ws, F', e2, e3⟩
  | _ => cases h
end
def fLen (xs : List U) : Option U := match xs with
  | [.str z] => if z.length ≤ 1000000 then some (.int z.length) else none
  | [u] => (match lenU u with | some k => some (.int k) | none => none)
  | _ => none
def fList (xs : List U) : Option U := match xs with
  | [u] => (match itmsU u with | some us => if us.all noB then some (.lst .o us) else none | none => none)
  | _ => none
def fTuple (xs : List U) : Option U := match xs with
  | [u] => (match itmsU u with | some us => if us.all noB && us.all noO then some (.tup us) else none | none => none)
  | _ => none
def fAbs (xs : List U) : Option U := match xs with
  | [.int i] => some (.int (if i < 0 then -i else i))
  | _ => none
def fMax2 (xs : List U) : Option U := match xs with
  | [.int i, .int j] => some (.int (if j > i then j else i))
  | _ => none
def fMin2 (xs : List U) : Option U := match xs with
  | [.int i, .int j] => some (.int (if j < i then j else i))
  | _ => none
def fInt (xs : List U) : Option U := match xs with
  | [.int i] => some (.int i)
  | [.bl b] => some (.int (if b then 1 else 0))
  | _ => none
def isBlsU : List U → Option (List Bool)
  | [] => some []
  | .bl b :: r => (match isBlsU r with | some q => some (b :: q) | none => none)
  | _ => none
def rawL : U → Option (List U)
  | .lst _ us => some us
  | .frz ns => some (ns.map U.int)
  | _ => none
def fAll (xs : List U) : Option U := match xs with
  | [u] => (match rawL u with
    | some us => (match isBlsU us with | some ns => some (.bl (ns.all id)) | none => none)
    | none => none)
  | _ => none
section
variable {p : Hh} {s : S} {c : Cf} {E B : Pr} {u : U} {w : W} {us : List U} {ws : List W} {F T F0 T0 : List Nat} {n : Nat}
theorem rawL_ok (d : D (rd p s) E B u w F) (h : rawL u = some us) : ∃ ws F0 T0, CC.cellL p s w = some ws ∧ D0s (rd p s) us ws F0 T0 := by
  cases u with
  | lst z us' =>
    cases h
    obtain ⟨n, ws, F0, T0, rfl, e, r, g⟩ := d.lst
    exact ⟨ws, F0, T0, by show CC.cellItems p s n = _; unfold CC.cellItems; rw [e], r⟩
  | frz ns =>
    cases h
    obtain ⟨rfl, n, rfl, e, _⟩ := d.frz_
    refine ⟨ns.map W.int, [], [], by show CC.cellItems p s n = _; unfold CC.cellItems; rw [e], ?_⟩
    clear d e
    induction ns with
    | nil => exact .nil
    | cons a r ih => exact .cons (F := []) (T := []) (.int a) ih
  | _ => cases h
theorem bls0_ok {ns : List Bool} : ∀ {us : List U} {ws : List W} {F T : List Nat}, D0s c us ws F T → isBlsU us = some ns → CC.isBls ws = some ns := by
  intro us
  induction us generalizing ns with
  | nil => intro ws F T d h; cases d; exact h
  | cons u us ih =>
    intro ws F T d h
    cases d with
    | cons d r =>
      cases u with
      | bl i =>
        cases d with
        | bl _ =>
          unfold isBlsU at h
          unfold CC.isBls
          cases q : isBlsU us with
          | none => rw [q] at h; cases h
          | some ms => rw [q] at h; cases h; rw [ih r q]
        | own _ k _ => cases k
        | shr _ k _ => cases k
      | _ => cases h
theorem opN_one {f : Hh → List W → S → CC.O2} {g : List U → Option U} (g1 : ∀ xs, (∀ x, xs ≠ [x]) → g xs = none) (h : ∀ {p : Hh} {s : S} {E B : Pr} {x u : U} {w : W} {Fx : List Nat}, D (rd p s) E B x w Fx → (∀ n, rd p s n = none → E n) → Fx.Nodup → g [x] = some u →
    ∃ w' s' F, f p [w] s = some (w', s') ∧ Ext (rd p s) (rd p s') ∧ (∀ n, rd p s' n = none → rd p s n = none) ∧ D (rd p s') E B u w' F ∧ F.Nodup ∧ ∀ a ∈ F, a ∈ Fx ∨ rd p s a = none) : OpN f g := fun {p s E B xs u ws Fx} dx ev nd e => by
  match xs, dx, e with
  | [x], dx, e =>
    obtain ⟨w, rfl, d⟩ := dx.one
    exact h d ev nd e
  | [], _, e => rw [g1 [] (by simp)] at e; cases e
  | _ :: _ :: _, _, e => rw [g1 _ (by simp)] at e; cases e
theorem sc_end {w : W} {u : U} (h : isSc u = some w) : Ext (rd p s) (rd p s) ∧ (∀ n, rd p s n = none → rd p s n = none) ∧ D (rd p s) E B u w [] ∧ ([] : List Nat).Nodup ∧ ∀ a ∈ ([] : List Nat), a ∈ F ∨ rd p s a = none := ⟨.rfl', fun _ h => h, sc_d h, List.nodup_nil, no⟩
theorem x_fLen : OpN CC.fLen fLen := by
  refine opN_one (fun xs h => ?_) fun {p s E B x u w Fx} d ev nd e => ?_
  · unfold fLen
    split
    · exact absurd rfl (h _)
    · exact absurd rfl (h _)
    · rfl
  cases x with
  | str z =>
    obtain rfl := d.is_str
    unfold fLen at e
    dsimp only at e
    split at e
    · rename_i q
      cases e
      exact ⟨_, s, [], by unfold CC.fLen; dsimp only; rw [if_pos q], sc_end rfl⟩
    · cases e
  | lst z us =>
    cases e
    obtain ⟨n, ws, F0, T0, rfl, e, r, g⟩ := d.lst
    exact ⟨.int us.length, s, [], by unfold CC.fLen CC.seqItems CC.cellItems; dsimp only; rw [e]; dsimp only; rw [r.len], sc_end rfl⟩
  | frz ns =>
    cases e
    obtain ⟨rfl, n, rfl, e, _⟩ := d.frz_
    exact ⟨.int ns.length, s, [], by unfold CC.fLen CC.seqItems CC.cellItems; dsimp only; rw [e]; simp, sc_end rfl⟩
  | tup us =>
    cases e
    obtain ⟨rfl, ws, rfl, ds⟩ := d.is_tup
    exact ⟨.int us.length, s, [], by unfold CC.fLen CC.seqItems; dsimp only; rw [ds.len], sc_end rfl⟩
  | _ => cases e
theorem x_fList : OpN CC.fList fList := by
  refine opN_one (fun xs h => ?_) fun {p s E B x u w Fx} d ev nd e => ?_
  · unfold fList
    split
    · exact absurd rfl (h _)
    · rfl
  unfold fList at e
  dsimp only at e
  cases q : itmsU x with
  | none => rw [q] at e; cases e
  | some us =>
    rw [q] at e
    dsimp only at e
    split at e
    · rename_i hb
      cases e
      obtain ⟨ws, F', h1, h2, h3, h4⟩ := itmsU_ok d nd q
      obtain ⟨d2, nd2⟩ := new_lst h2 hb ev h3
      exact ⟨_, _, _, by unfold CC.fList; dsimp only; rw [h1], ext_al, none_al, d2, nd2, fun a m => (List.mem_cons.mp m).elim (fun e => .inr (by rw [e]; exact rd_nxt)) fun m => .inl (h4 a m)⟩
    · cases e
theorem noO_nil (d : Ds c E B us ws F) (q : us.all noO = true) : F = [] := by
  induction d with
  | nil => rfl
  | cons d r ih =>
    simp only [List.all_cons, Bool.and_eq_true] at q
    rw [d.noO q.1, ih q.2]; rfl
theorem x_fTuple : OpN CC.fTuple fTuple := by
  refine opN_one (fun xs h => ?_) fun {p s E B x u w Fx} d ev nd e => ?_
  · unfold fTuple
    split
    · exact absurd rfl (h _)
    · rfl
  unfold fTuple at e
  dsimp only at e
  cases q : itmsU x with
  | none => rw [q] at e; cases e
  | some us =>
    rw [q] at e
    dsimp only at e
    split at e
    · rename_i hb
      cases e
      rw [Bool.and_eq_true] at hb
      obtain ⟨ws, F', h1, h2, h3, h4⟩ := itmsU_ok d nd q
      obtain rfl := noO_nil h2 hb.2
      exact ⟨_, s, [], by unfold CC.fTuple; dsimp only; rw [h1], .rfl', fun _ h => h, h2.tup hb.1, List.nodup_nil, no⟩
    · cases e
theorem x_fAbs : OpN CC.fAbs fAbs := by
  refine opN_one (fun xs h => ?_) fun {p s E B x u w Fx} d ev nd e => ?_
  · unfold fAbs
    split
    · exact absurd rfl (h _)
    · rfl
  cases x with
  | int i => obtain rfl := d.is_int; cases e; exact ⟨_, s, [], rfl, sc_end rfl⟩
  | _ => cases e
theorem x_fInt : OpN CC.fInt fInt := by
  refine opN_one (fun xs h => ?_) fun {p s E B x u w Fx} d ev nd e => ?_
  · unfold fInt
    split
    · exact absurd rfl (h _)
    · exact absurd rfl (h _)
    · rfl
  cases x with
  | int i => obtain rfl := d.is_int; cases e; exact ⟨_, s, [], rfl, sc_end rfl⟩
  | bl i => obtain rfl := d.is_bl; cases e; exact ⟨_, s, [], rfl, sc_end rfl⟩
  | _ => cases e
theorem x_fMax2 : OpN CC.fMax2 fMax2 := by
  refine opN_sc fun {p s E B xs u ws Fx} dx e => ?_
  unfold fMax2 at e
  split at e
  · cases e
    cases dx with
    | cons d r => cases r with
      | cons d2 r => cases r with
        | nil => obtain rfl := d.is_int; obtain rfl := d2.is_int; exact ⟨_, rfl, rfl⟩
  · cases e
theorem x_fMin2 : OpN CC.fMin2 fMin2 := by
  refine opN_sc fun {p s E B xs u ws Fx} dx e => ?_
  unfold fMin2 at e
  split at e
  · cases e
    cases dx with
    | cons d r => cases r with
      | cons d2 r => cases r with
        | nil => obtain rfl := d.is_int; obtain rfl := d2.is_int; exact ⟨_, rfl, rfl⟩
  · cases e
theorem x_fAll : OpN CC.fAll fAll := by
  refine opN_one (fun xs h => ?_) fun {p s E B x u w Fx} d ev nd e => ?_
  · unfold fAll
    split
    · exact absurd rfl (h _)
    · rfl
  unfold fAll at e
  dsimp only at e
  cases q : rawL x with
  | none => rw [q] at e; cases e
  | some us =>
    rw [q] at e
    dsimp only at e
    cases q2 : isBlsU us with
    | none => rw [q2] at e; cases e
    | some ns =>
      rw [q2] at e
      cases e
      obtain ⟨ws, F0, T0, h1, h2⟩ := rawL_ok d q
      exact ⟨_, s, [], by unfold CC.fAll; dsimp only; rw [h1]; dsimp only; rw [bls0_ok h2 q2], sc_end rfl⟩
end
end CV
set_option Elab.async false
set_option linter.all false
set_option maxRecDepth 100000
namespace CV
open PySem PySem.Spec PyProof.Rows L2
open CC (W Ob S Hh Lo R RS rd wr al nxt ItD i64 mapO)
def repU (k : Int) (a : List U) : List U := (List.replicate k.toNat a).flatten
def gAdd (x y : U) : Option U := match x, y with
  | .int i, .int j => some (.int (i + j))
  | .str a, .str b => if a.length + b.length ≤ 1000000 then some (.str (a ++ b)) else none
  | .tup a, .tup b => if a.length + b.length ≤ 1000000 then some (.tup (a ++ b)) else none
  | x, y => (match lsU x, lsU y with
    | some a, some b => if a.length + b.length ≤ 1000000 ∧ (a.all noB && b.all noB) = true then some (.lst .o (a ++ b)) else none
    | _, _ => none)
def gMul (x y : U) : Option U := match x, y with
  | .int i, .int j => if i64 i || i64 j then some (.int (i * j)) else none
  | .tup a, .int k => if a ≠ [] ∧ 2 ≤ k ∧ k ≤ 1000 ∧ a.length ≤ 1000 then some (.tup (repU k a)) else none
  | x, .int k => (match lsU x with
    | some a => if -(2 ^ 63) ≤ k ∧ k < 2 ^ 63 ∧ a.length * k.toNat ≤ 1000000 ∧ (a.all noB && a.all noO) = true then some (.lst .o (repU k a)) else none
    | none => none)
  | _, _ => none
section
variable {p : Hh} {s : S} {c : Cf} {E B : Pr} {u : U} {w : W} {us us' : List U} {ws ws' : List W} {F F' T F0 T0 : List Nat} {n : Nat}
theorem nd_app (h : (F ++ F').Nodup) {G G' : List Nat} (hg : G.Nodup) (hg' : G'.Nodup) (i : ∀ a ∈ G, a ∈ F) (i' : ∀ a ∈ G', a ∈ F') : (G ++ G').Nodup :=
  List.nodup_append.mpr ⟨hg, hg', fun a m b m2 e => (List.nodup_append.mp h).2.2 a (i a m) b (i' b m2) e⟩
theorem x_gAdd : Op2 CC.gAdd gAdd := fun {p s E B x y u wx wy Fx Fy} dx dy ev nd e => by
  have nd2 := List.nodup_append.mp nd
  have lists : (match lsU x, lsU y with
    | some a, some b => if a.length + b.length ≤ 1000000 ∧ (a.all noB && b.all noB) = true then some (U.lst .o (a ++ b)) else none
    | _, _ => none) = some u → ∃ w s' F, CC.gAdd p wx wy s = some (w, s') ∧ Ext (rd p s) (rd p s') ∧ (∀ n, rd p s' n = none → rd p s n = none) ∧ D (rd p s') E B u w F ∧ F.Nodup ∧ ∀ a ∈ F, a ∈ Fx ++ Fy ∨ rd p s a = none := fun e => by
    cases q : lsU x with
    | none => rw [q] at e; cases e
    | some a =>
      cases q2 : lsU y with
      | none => rw [q, q2] at e; cases e
      | some b =>
        rw [q, q2] at e
        dsimp only at e
        split at e
        · rename_i h
          cases e
          obtain ⟨n, ws, F1, rfl, e1, d1, n1, i1⟩ := lsU_ok dx nd2.1 q
          obtain ⟨m, ws2, F2, rfl, e2, d2, n2, i2⟩ := lsU_ok dy nd2.2.1 q2
          rw [Bool.and_eq_true] at h
          obtain ⟨d, nn⟩ := new_lst (d1.app d2) (by rw [List.all_append, h.2.1, h.2.2]; rfl) ev (nd_app nd n1 n2 i1 i2)
          refine ⟨_, _, _, by
            unfold CC.gAdd; dsimp only; rw [e1, e2]; dsimp only
            rw [if_pos (by rw [← d1.len, ← d2.len]; exact h.1)], ext_al, none_al, d, nn, fun a m => ?_⟩
          rcases List.mem_cons.mp m with rfl | m
          · exact .inr rd_nxt
          · exact .inl ((List.mem_append.mp m).elim (fun m => List.mem_append_left _ (i1 a m)) fun m => List.mem_append_right _ (i2 a m))
        · cases e
  unfold gAdd at e
  split at e
  · cases e
    obtain rfl := dx.is_int
    obtain rfl := dy.is_int
    exact ⟨_, s, [], rfl, sc_end rfl⟩
  · obtain rfl := dx.is_str
    obtain rfl := dy.is_str
    split at e
    · rename_i h
      cases e
      exact ⟨_, s, [], by unfold CC.gAdd; dsimp only; rw [if_pos h], sc_end rfl⟩
    · cases e
  · obtain ⟨rfl, ws1, rfl, d1⟩ := dx.is_tup
    obtain ⟨rfl, ws2, rfl, d2⟩ := dy.is_tup
    split at e
    · rename_i h
      cases e
      refine ⟨.tup (ws1 ++ ws2), s, [], by unfold CC.gAdd; dsimp only; rw [if_pos (by rw [← d1.len, ← d2.len]; exact h)], .rfl', fun _ h => h, ?_, List.nodup_nil, no⟩
      obtain ⟨T1, Z1, q1, _, t1, _⟩ := dx
      obtain ⟨T2, Z2, q2, _, t2, _⟩ := dy
      have app : ∀ {a b : List U} {v1 v2 : List W} {T1 T2 : List Nat}, D0s (rd p s) a v1 [] T1 → D0s (rd p s) b v2 [] T2 → D0s (rd p s) (a ++ b) (v1 ++ v2) [] (T1 ++ T2) := by
        intro a
        induction a with
        | nil => intro b v1 v2 T1 T2 h1 h2; cases h1; exact h2
        | cons x a ih =>
          intro b v1 v2 T1 T2 h1 h2
          generalize hF : ([] : List Nat) = F at h1
          cases h1 with
          | @cons _ w _ vs Fa Ta Fb Tb d r =>
            obtain ⟨rfl, rfl⟩ := List.append_eq_nil_iff.mp hF.symm
            rw [List.append_assoc]
            exact .cons (F := []) d (ih r h2)
      cases q1 with
      | z q1 =>
        cases q1 with
        | tup r1 =>
          cases q2 with
          | z q2 =>
            cases q2 with
            | tup r2 => exact ⟨_, [], .z (.tup (app r1 r2)), no, fun a m => (List.mem_append.mp m).elim (t1 a) (t2 a), no⟩
    · cases e
  · exact lists e
theorem repD {k : Nat} (d : Ds c E B us ws []) : Ds c E B (List.replicate k us).flatten (List.replicate k ws).flatten [] := by
  induction k with
  | zero => exact .nil
  | succ k ih => simp only [List.replicate_succ, List.flatten_cons]; exact d.app ih
theorem rep_all {k : Nat} {f : U → Bool} (h : us.all f = true) : ((List.replicate k us).flatten).all f = true := by
  induction k with
  | zero => rfl
  | succ k ih => simp only [List.replicate_succ, List.flatten_cons, List.all_append, h, ih]; rfl
theorem x_gMul : Op2 CC.gMul gMul := fun {p s E B x y u wx wy Fx Fy} dx dy ev nd e => by
  have nd2 := List.nodup_append.mp nd
  unfold gMul at e
  split at e
  · obtain rfl := dx.is_int
    obtain rfl := dy.is_int
    split at e
    · rename_i h
      cases e
      exact ⟨_, s, [], by unfold CC.gMul; dsimp only; rw [if_pos h], sc_end rfl⟩
    · cases e
  · rename_i a k
    obtain ⟨rfl, ws1, rfl, d1⟩ := dx.is_tup
    obtain rfl := dy.is_int
    split at e
    · rename_i h
      cases e
      refine ⟨.tup (CC.repL k ws1), s, [], ?_, .rfl', fun _ h => h, ?_, List.nodup_nil, no⟩
      · unfold CC.gMul
        dsimp only
        rw [if_pos]
        refine ⟨fun z => h.1 ?_, h.2.1, h.2.2.1, by rw [← d1.len]; exact h.2.2.2⟩
        have := d1.len
        rw [z] at this
        exact List.length_eq_zero_iff.mp this
      · -- a tuple's parts are not lent
        have rep : ∀ (k : Nat) {T : List Nat}, D0s (rd p s) a ws1 [] T → ∃ T', D0s (rd p s) (List.replicate k a).flatten (List.replicate k ws1).flatten [] T' ∧ ∀ x ∈ T', x ∈ T := by
          intro k T r
          induction k with
          | zero => exact ⟨[], .nil, no⟩
          | succ k ih =>
            obtain ⟨T', r', t⟩ := ih
            have app : ∀ {a b : List U} {v1 v2 : List W} {T1 T2 : List Nat}, D0s (rd p s) a v1 [] T1 → D0s (rd p s) b v2 [] T2 → D0s (rd p s) (a ++ b) (v1 ++ v2) [] (T1 ++ T2) := by
              intro a
              induction a with
              | nil => intro b v1 v2 T1 T2 h1 h2; cases h1; exact h2
              | cons x a ih =>
                intro b v1 v2 T1 T2 h1 h2
                generalize hF : ([] : List Nat) = F at h1
                cases h1 with
                | @cons _ w _ vs Fa Ta Fb Tb d r =>
                  obtain ⟨rfl, rfl⟩ := List.append_eq_nil_iff.mp hF.symm
                  rw [List.append_assoc]
                  exact .cons (F := []) d (ih r h2)
            simp only [List.replicate_succ, List.flatten_cons]
            exact ⟨_, app r r', fun x m => (List.mem_append.mp m).elim id (t x)⟩
        obtain ⟨T1, Z1, q1, _, t1, _⟩ := dx
        cases q1 with
        | z q1 =>
          cases q1 with
          | tup r1 =>
            obtain ⟨T', r', t⟩ := rep k.toNat r1
            exact ⟨_, [], .z (.tup r'), no, fun a m => t1 a (t a m), no⟩
    · cases e
  · rename_i k hne1 hne2
    obtain rfl := dy.is_int
    cases q : lsU x with
    | none => rw [q] at e; cases e
    | some a =>
      rw [q] at e
      dsimp only at e
      split at e
      · rename_i h
        cases e
        rw [Bool.and_eq_true] at h
        obtain ⟨n, ws, F1, rfl, e1, d1, n1, i1⟩ := lsU_ok dx nd2.1 q
        obtain rfl := noO_nil d1 h.2.2.2.2
        obtain ⟨d, nn⟩ := new_lst (repD (k := k.toNat) d1) (rep_all h.2.2.2.1) ev List.nodup_nil
        refine ⟨_, _, _, by
          unfold CC.gMul; dsimp only; rw [e1]; dsimp only
          rw [if_pos (by rw [← d1.len]; exact ⟨h.1, h.2.1, h.2.2.1⟩)]; rfl, ext_al, none_al, d, nn, fun a m => ?_⟩
        rw [List.mem_singleton.mp m]
        exact .inr rd_nxt
      · cases e
  · cases e
end
def keyU : U → Option Key
  | .int i => some (.inl i)
  | .str z => some (.inr z)
  | _ => none
def keysU : U → Option (List Key)
  | .tup us => mapO keyU us
  | _ => none
section
variable {κ : Type} [DecidableEq κ]
def valU (k : κ) : List (κ × U) → Option U
  | [] => none
  | (j, w) :: r => if j = k then some w else valU k r
def setU (k : κ) (w : U) : List (κ × U) → List (κ × U)
  | [] => []
  | (j, u) :: r => if j = k then (j, w) :: setU k w r else (j, u) :: setU k w r
def hasU (k : κ) : List (κ × U) → Bool
  | [] => false
  | (j, _) :: r => if j = k then true else hasU k r
def putKU (kvs : List (κ × U)) (k : κ) (w : U) : List (κ × U) := if hasU k kvs then setU k w kvs else kvs ++ [(k, w)]
end
def gDic (o i : U) : Option (Option U) := match o with
  | .dct z kvs => (match keyU i with | some k => some ((valU k kvs).map (itm z)) | none => none)
  | .dtt z kvs => (match keysU i with | some k => some ((valU k kvs).map (itm z)) | none => none)
  | _ => none
def getI (us : List U) (i : U) : Option U := match i with
  | .int j => atI us j
  | _ => none
def gIx (o i : U) : Option U := match o with
  | .str z => (match i with
    | .int j => if z.length ≤ 1000000 then (match atI z.cps.toList j with | some c => some (.str ⟨#[c]⟩) | none => none) else none
    | _ => none)
  | .lst z us => (getI us i).map (itm z)
  | .tup us => getI us i
  | .frz ns => getI (ns.map U.int) i
  | o => (match gDic o i with
    | some (some w) => some w
    | _ => none)
section
variable {p : Hh} {s : S} {c : Cf} {E B : Pr} {u : U} {w : W} {us us' : List U} {ws ws' : List W} {F F' T F0 T0 : List Nat} {n : Nat}
theorem key_ok {k : Key} (d : D c E B u w F) (h : keyU u = some k) : CC.keyW w = some k := by
  cases u with
  | int i => obtain rfl := d.is_int; exact h
  | str i => obtain rfl := d.is_str; exact h
  | _ => cases h
theorem keys_ok0 : ∀ {us : List U} {ws : List W} {F : List Nat} {ks : List Key}, Ds c E B us ws F → mapO keyU us = some ks → mapO CC.keyW ws = some ks := by
  intro us
  induction us with
  | nil => intro ws F ks d e; cases d; exact e
  | cons u us ih =>
    intro ws F ks d e
    cases d with
    | cons d r =>
      unfold mapO at e ⊢
      cases q : keyU u with
      | none => rw [q] at e; cases e
      | some x =>
        rw [q] at e
        rw [key_ok d q]
        cases q2 : mapO keyU us with
        | none => rw [q2] at e; cases e
        | some y => rw [q2] at e; rw [ih r q2]; exact e
theorem keys_ok {k : List Key} (d : D c E B u w F) (h : keysU u = some k) : CC.keysW w = some k := by
  cases u with
  | tup us =>
    obtain ⟨_, ws, rfl, ds⟩ := d.is_tup
    exact keys_ok0 ds h
  | _ => cases h
theorem val_ok {κ : Type} [DecidableEq κ] {k : κ} : ∀ {kvs : List (κ × U)} {kws : List (κ × W)} {F T : List Nat}, kvs.map (·.1) = kws.map (·.1) → D0s c (kvs.map (·.2)) (kws.map (·.2)) F T → (valU k kvs = none → CC.valW k kws = none) ∧ ∀ u, valU k kvs = some u → ∃ w F' T', CC.valW k kws = some w ∧ D0 c u w F' T' ∧ (∀ a ∈ F', a ∈ F) ∧ (∀ a ∈ T', a ∈ T) ∧ (F.Nodup → F'.Nodup)
  | [], [], F, T, h, d => ⟨fun _ => rfl, fun u e => by cases e⟩
  | [], _ :: _, F, T, h, d => by cases h
  | _ :: _, [], F, T, h, d => by cases h
  | (j, u) :: kvs, (j', w) :: kws, F, T, h, d => by
    simp only [List.map_cons, List.cons.injEq] at h
    obtain ⟨rfl, h⟩ := h
    cases d with
    | @cons _ _ _ _ Fa Ta Fb Tb d r =>
      obtain ⟨i1, i2⟩ := val_ok (k := k) h r
      unfold valU CC.valW
      by_cases e : j = k
      · rw [if_pos e, if_pos e]
        exact ⟨fun z => (nomatch z), fun u' z => by cases z; exact ⟨w, Fa, Ta, rfl, d, fun a m => List.mem_append_left _ m, fun a m => List.mem_append_left _ m, fun nd => (List.nodup_append.mp nd).1⟩⟩
      · rw [if_neg e, if_neg e]
        refine ⟨i1, fun u' z => ?_⟩
        obtain ⟨w', F', T', h1, h2, h3, h4, h5⟩ := i2 u' z
        exact ⟨w', F', T', h1, h2, fun a m => List.mem_append_right _ (h3 a m), fun a m => List.mem_append_right _ (h4 a m), fun nd => h5 (List.nodup_append.mp nd).2.1⟩
theorem D.dct {z : Fl} {kvs : List (Key × U)} (h : D c E B (.dct z kvs) w F) : ∃ n kws F0 T0, w = .ref n ∧ c n = some (.dct kws) ∧ kvs.map (·.1) = kws.map (·.1) ∧ D0s c (kvs.map (·.2)) (kws.map (·.2)) F0 T0 ∧ Fg E B z n F0 T0 F := by
  rcases h.node with h | ⟨_, h⟩ | ⟨_, h⟩ | ⟨_, h⟩ | ⟨_, h⟩ | ⟨z', us', n, ob, ws, F0, T0, rfl, e, k, r, f⟩ <;> first | cases h | skip
  cases k with
  | dct hk => exact ⟨n, _, F0, T0, rfl, e, hk, r, f⟩
theorem D.dtt {z : Fl} {kvs : List (List Key × U)} (h : D c E B (.dtt z kvs) w F) : ∃ n kws F0 T0, w = .ref n ∧ c n = some (.dtt kws) ∧ kvs.map (·.1) = kws.map (·.1) ∧ D0s c (kvs.map (·.2)) (kws.map (·.2)) F0 T0 ∧ Fg E B z n F0 T0 F := by
  rcases h.node with h | ⟨_, h⟩ | ⟨_, h⟩ | ⟨_, h⟩ | ⟨_, h⟩ | ⟨z', us', n, ob, ws, F0, T0, rfl, e, k, r, f⟩ <;> first | cases h | skip
  cases k with
  | dtt hk => exact ⟨n, _, F0, T0, rfl, e, hk, r, f⟩
theorem D.ins {z : Fl} {k : Nat} {fs : List (Nat × U)} (h : D c E B (.ins z k fs) w F) : ∃ n gs F0 T0, w = .ref n ∧ c n = some (.ins k gs) ∧ fs.map (·.1) = gs.map (·.1) ∧ D0s c (fs.map (·.2)) (gs.map (·.2)) F0 T0 ∧ Fg E B z n F0 T0 F := by
  rcases h.node with h | ⟨_, h⟩ | ⟨_, h⟩ | ⟨_, h⟩ | ⟨_, h⟩ | ⟨z', us', n, ob, ws, F0, T0, rfl, e, k, r, f⟩ <;> first | cases h | skip
  cases k with
  | ins hk => exact ⟨n, _, F0, T0, rfl, e, hk, r, f⟩
theorem item_ok' {z : Fl} {Fx : List Nat} (d : D0 c u w F T) (g : Fg E B z n F0 T0 Fx) (nd : Fx.Nodup) (hF : ∀ a ∈ F, a ∈ F0) (hT : ∀ a ∈ T, a ∈ T0) (hn : F0.Nodup → F.Nodup) : ∃ F', D c E B (itm z u) w F' ∧ (∀ a ∈ F', a ∈ Fx) ∧ F'.Nodup := by
  cases z with
  | o => exact ⟨F, ⟨T, [], .z d, fun a m => g.2.1 a (List.mem_cons_of_mem _ (hF a m)), fun a m => g.2.2 a (hT a m), no⟩, fun a m => by rw [g.1]; exact List.mem_cons_of_mem _ (hF a m), hn (g.nd nd rfl)⟩
  | s =>
    obtain ⟨T', d', t⟩ := d.frz
    exact ⟨[], ⟨T', [], .z d', no, fun a m => (t a m).elim (fun m => g.2.2.1 a (hF a m)) fun m => g.2.2.2 a (hT a m), no⟩, no, List.nodup_nil⟩
  | b =>
    obtain ⟨T', Z', d', t, z⟩ := d.bor
    exact ⟨[], ⟨T', Z', d', no, fun a m => g.2.2 a (hT a (t a m)), fun a m => g.2.1 a (List.mem_cons_of_mem _ (hF a (z a m)))⟩, no, List.nodup_nil⟩
theorem dic_ok {o i : U} {wo wi : W} {Fo Fi : List Nat} {r : Option U} (dO : D (rd p s) E B o wo Fo) (di : D (rd p s) E B i wi Fi) (nd : Fo.Nodup) (h : gDic o i = some r) : ∃ r', CC.gDic p wo wi s = some r' ∧ (r = none → r' = none) ∧ ∀ u, r = some u → ∃ w F, r' = some w ∧ D (rd p s) E B u w F ∧ (∀ a ∈ F, a ∈ Fo) ∧ F.Nodup := by
  cases o with
  | dct z kvs =>
    obtain ⟨n, kws, F0, T0, rfl, e, hk, ds, g⟩ := dO.dct
    unfold gDic at h
    dsimp only at h
    cases q : keyU i with
    | none => rw [q] at h; cases h
    | some k =>
      rw [q] at h
      cases h
      obtain ⟨v1, v2⟩ := val_ok (k := k) hk ds
      refine ⟨CC.valW k kws, by unfold CC.gDic; dsimp only; rw [e]; dsimp only; rw [key_ok di q], fun z => v1 (by simpa using z), fun u z => ?_⟩
      rw [Option.map_eq_some_iff] at z
      obtain ⟨u0, z, rfl⟩ := z
      obtain ⟨w, F', T', h1, h2, h3, h4, h5⟩ := v2 u0 z
      obtain ⟨F2, d2, i2, n2⟩ := item_ok' h2 g nd h3 h4 h5
      exact ⟨w, F2, h1, d2, i2, n2⟩
  | dtt z kvs =>
    obtain ⟨n, kws, F0, T0, rfl, e, hk, ds, g⟩ := dO.dtt
    unfold gDic at h
    dsimp only at h
    cases q : keysU i with
    | none => rw [q] at h; cases h
    | some k =>
      rw [q] at h
      cases h
      obtain ⟨v1, v2⟩ := val_ok (k := k) hk ds
      refine ⟨CC.valW k kws, by unfold CC.gDic; dsimp only; rw [e]; dsimp only; rw [keys_ok di q], fun z => v1 (by simpa using z), fun u z => ?_⟩
      rw [Option.map_eq_some_iff] at z
      obtain ⟨u0, z, rfl⟩ := z
      obtain ⟨w, F', T', h1, h2, h3, h4, h5⟩ := v2 u0 z
      obtain ⟨F2, d2, i2, n2⟩ := item_ok' h2 g nd h3 h4 h5
      exact ⟨w, F2, h1, d2, i2, n2⟩
  | _ => cases h
theorem atI_len {α β : Type} {xs : List α} {ys : List β} {j : Int} {x : α} (h : xs.length = ys.length) (e : atI xs j = some x) : ∃ k : Nat, xs[k]? = some x ∧ ∀ y, ys[k]? = some y → atI ys j = some y := by
  unfold atI at e ⊢
  rw [← h]
  cases q : ixN xs.length j with
  | none => rw [q] at e; cases e
  | some k => rw [q] at e; exact ⟨k, e, fun y hy => hy⟩
theorem x_gIx : Op2 CC.gIx gIx := fun {p s E B x y u wx wy Fx Fy} dx dy ev nd e => by
  have nd2 := List.nodup_append.mp nd
  have fin : ∀ {w F}, CC.gIx p wx wy s = some (w, s) → D (rd p s) E B u w F → (∀ a ∈ F, a ∈ Fx) → F.Nodup → ∃ w s' F, CC.gIx p wx wy s = some (w, s') ∧ Ext (rd p s) (rd p s') ∧ (∀ n, rd p s' n = none → rd p s n = none) ∧ D (rd p s') E B u w F ∧ F.Nodup ∧ ∀ a ∈ F, a ∈ Fx ++ Fy ∨ rd p s a = none := fun h d i n => ⟨_, s, _, h, .rfl', fun _ h => h, d, n, fun a m => .inl (List.mem_append_left _ (i a m))⟩
  cases x with
  | str z =>
    obtain rfl := dx.is_str
    cases y with
    | int j =>
      obtain rfl := dy.is_int
      unfold gIx at e
      dsimp only at e
      split at e
      · rename_i h
        cases q : atI z.cps.toList j with
        | none => rw [q] at e; cases e
        | some ch =>
          rw [q] at e
          cases e
          exact fin (by unfold CC.gIx; dsimp only; rw [if_pos h, q]) d_str no List.nodup_nil
      · cases e
    | _ => cases e
  | lst z us =>
    cases y with
    | int j =>
      obtain rfl := dy.is_int
      obtain ⟨n, ws, F0, T0, rfl, e2, r, g⟩ := dx.lst
      unfold gIx getI at e
      rw [Option.map_eq_some_iff] at e
      obtain ⟨u0, e, rfl⟩ := e
      obtain ⟨k, h1, h2⟩ := atI_len r.len e
      obtain ⟨w, F', T', g1, g2, g3, g4, g5⟩ := r.get h1
      obtain ⟨F2, d2, i2, n2⟩ := item_ok' g2 g nd2.1 g3 g4 g5
      exact fin (by unfold CC.gIx CC.seqItems CC.cellItems; dsimp only; rw [e2]; dsimp only; rw [h2 w g1]) d2 i2 n2
    | _ => cases e
  | tup us =>
    cases y with
    | int j =>
      obtain rfl := dy.is_int
      obtain ⟨rfl, ws, rfl, ds⟩ := dx.is_tup
      unfold gIx getI at e
      dsimp only at e
      obtain ⟨k, h1, h2⟩ := atI_len ds.len e
      have get : ∀ {us : List U} {ws : List W} {k : Nat} {u : U}, Ds (rd p s) E B us ws [] → us[k]? = some u → ∃ w, ws[k]? = some w ∧ D (rd p s) E B u w [] := by
        intro us
        induction us with
        | nil => intro ws k u _ h; simp at h
        | cons x us ih =>
          intro ws k u d h
          rcases d.nil_of rfl with ⟨e, _⟩ | ⟨u', w, us', ws', e, rfl, d1, d2⟩
          · cases e
          · cases e
            cases k with
            | zero => simp at h; subst h; exact ⟨w, rfl, d1⟩
            | succ k =>
              obtain ⟨w', q1, q2⟩ := ih d2 (by simpa using h)
              exact ⟨w', by simpa using q1, q2⟩
      obtain ⟨w, q1, q2⟩ := get ds h1
      exact fin (by unfold CC.gIx CC.seqItems; dsimp only; rw [h2 w q1]) q2 no List.nodup_nil
    | _ => cases e
  | frz ns =>
    cases y with
    | int j =>
      obtain rfl := dy.is_int
      obtain ⟨rfl, n, rfl, e2, _⟩ := dx.frz_
      unfold gIx getI at e
      dsimp only at e
      obtain ⟨k, h1, h2⟩ := atI_len (ys := ns.map W.int) (by simp) e
      rw [List.getElem?_map] at h1
      cases q : ns[k]? with
      | none => rw [q] at h1; cases h1
      | some i =>
        rw [q] at h1
        cases h1
        exact fin (by unfold CC.gIx CC.seqItems CC.cellItems; dsimp only; rw [e2]; dsimp only; rw [h2 (.int i) (by rw [List.getElem?_map, q]; rfl)]) d_int no List.nodup_nil
    | _ => cases e
  | dct z kvs =>
    unfold gIx at e
    dsimp only at e
    cases q : gDic (.dct z kvs) y with
    | none => rw [q] at e; cases e
    | some r =>
      rw [q] at e
      cases r with
      | none => cases e
      | some u' =>
        cases e
        obtain ⟨r', h1, _, h2⟩ := dic_ok dx dy nd2.1 q
        obtain ⟨w, F, rfl, d, i, n⟩ := h2 u rfl
        obtain ⟨nn, kws, _, _, rfl, e2, _⟩ := dx.dct
        exact fin (by unfold CC.gIx CC.seqItems CC.cellItems; dsimp only; rw [e2]; dsimp only; rw [h1]) d i n
  | dtt z kvs =>
    unfold gIx at e
    dsimp only at e
    cases q : gDic (.dtt z kvs) y with
    | none => rw [q] at e; cases e
    | some r =>
      rw [q] at e
      cases r with
      | none => cases e
      | some u' =>
        cases e
        obtain ⟨r', h1, _, h2⟩ := dic_ok dx dy nd2.1 q
        obtain ⟨w, F, rfl, d, i, n⟩ := h2 u rfl
        obtain ⟨nn, kws, _, _, rfl, e2, _⟩ := dx.dtt
        exact fin (by unfold CC.gIx CC.seqItems CC.cellItems; dsimp only; rw [e2]; dsimp only; rw [h1]) d i n
  | _ => cases e
end
def gInA (x y : U) : Option U := match gDic y x with
  | some r => some (.bl r.isSome)
  | none => (match gInB x y with | some b => some (.bl b) | none => none)
section
variable {p : Hh} {s : S} {E B : Pr} {x y : U} {wx wy : W} {Fx Fy : List Nat}
theorem gDic_none {b : Bool} (dy : D (rd p s) E B y wy Fy) (h : gInB x y = some b) : CC.gDic p wy wx s = none := by
  have ht : ∀ d, datU 12 y = some d → (∃ ds, d = .list ds ∨ d = .tuple ds) → CC.gDic p wy wx s = none := fun d e hd => by
    obtain ⟨ds, hd⟩ := hd
    cases y with
    | lst z us => obtain ⟨n, ws, _, _, rfl, e2, _⟩ := dy.lst; unfold CC.gDic; dsimp only; rw [e2]
    | tup us => obtain ⟨_, ws, rfl, _⟩ := dy.is_tup; rfl
    | frz ns => obtain ⟨_, n, rfl, e2, _⟩ := dy.frz_; unfold CC.gDic; dsimp only; rw [e2]
    | dct z kvs =>
      cases kvs with
      | nil => cases e; rcases hd with hd | hd <;> cases hd
      | cons _ _ => cases e
    | non => cases e; rcases hd with hd | hd <;> cases hd
    | bl _ => cases e; rcases hd with hd | hd <;> cases hd
    | int _ => cases e; rcases hd with hd | hd <;> cases hd
    | str _ => cases e; rcases hd with hd | hd <;> cases hd
    | _ => cases e
  unfold gInB at h
  split at h
  · rename_i e; exact ht _ e ⟨_, .inl rfl⟩
  · rename_i e; exact ht _ e ⟨_, .inr rfl⟩
  · cases h
theorem x_gInA : Op2 CC.gInA gInA := fun {p s E B x y u wx wy Fx Fy} dx dy ev nd e => by
  have nd2 := List.nodup_append.mp nd
  unfold gInA at e
  cases q : gDic y x with
  | some r =>
    rw [q] at e
    cases e
    obtain ⟨r', h1, h2, h3⟩ := dic_ok dy dx nd2.2.1 q
    refine ⟨.bl r.isSome, s, [], ?_, sc_end rfl⟩
    unfold CC.gInA
    rw [h1]
    cases r with
    | none => rw [h2 rfl]; rfl
    | some u => obtain ⟨w, F, rfl, _⟩ := h3 u rfl; rfl
  | none =>
    rw [q] at e
    dsimp only at e
    cases q2 : gInB x y with
    | none => rw [q2] at e; cases e
    | some b =>
      rw [q2] at e
      cases e
      refine ⟨.bl b, s, [], ?_, sc_end rfl⟩
      unfold CC.gInA CC.gIn
      rw [gDic_none dy q2, inB_ok dx dy q2]
end
end CV
set_option Elab.async false
set_option linter.all false
set_option maxRecDepth 100000
namespace CV
open PySem PySem.Spec PyProof.Rows L2
open CC (W Ob S Hh Lo R RS rd wr al nxt ItD i64 mapO TK)
def relO : Rl (Option Int) (Option Int) := fun _ _ _ b b' F => b = b' ∧ F = []
theorem rmO : RM relO := ⟨fun h _ _ _ => h, fun h a m => by rw [h.2] at m; cases m⟩
def oNo : VL → RU (Option Int) := fun v => .ok none v
def oSo (ma : VL → RU U) : VL → RU (Option Int) := fun v => (ma v).bind fun u v1 => match u with
  | .int i => .ok (some i) v1
  | _ => .bad
def cutU (xs : List U) (lo hi : Option Int) : List U := (xs.drop (HT.sIx xs.length 0 lo)).take (HT.sIx xs.length xs.length hi - HT.sIx xs.length 0 lo)
def gSl (o : U) (lo hi : Option Int) : Option U := match o with
  | .tup us => some (.tup (cutU us lo hi))
  | o => (match lfU o with
    | some us => if (cutU us lo hi).all noB then some (.lst .o (cutU us lo hi)) else none
    | none => none)
def eSl (mo : VL → RU U) (ml mh : VL → RU (Option Int)) : VL → RU U := fun v => (mo v).bind fun o v1 => (ml v1).bind fun lo v2 => (mh v2).bind fun hi v3 => ofO (gSl o lo hi) v3
def RRg : Rl (List U) ItD := fun c E B us d F => F = [] ∧ ∃ lo st n, d = .rng lo st n ∧ us = rngU lo st n
def eDct : VL → RU U := fun v => .ok (.dct .o []) v
def lookFU (i : Nat) : List (Nat × U) → Option U
  | [] => none
  | (j, w) :: r => if i = j then some w else lookFU i r
def eFld (k i : Nat) (mo : VL → RU U) : VL → RU U := fun v => (mo v).bind fun o v1 => match o with
  | .ins z d fs => if d = k then (match lookFU i fs with | some u => .ok (itm z u) v1 | none => .bad) else .bad
  | _ => .bad
def tyU : U → TK
  | .non => .non
  | .bl _ => .bl
  | .int _ => .int
  | .str _ => .str
  | .tup _ => .tup
  | .lst _ _ => .lst
  | .frz _ => .lst
  | .dct _ _ => .dct
  | .dtt _ _ => .dct
  | .ins _ c _ => .own c
def eIsi (q : TK → Option Bool) (ma : VL → RU U) : VL → RU U := fun v => (ma v).bind fun u v1 => match q (tyU u) with
  | some b => .ok (.bl b) v1
  | none => .bad
def eBm (f : U → List U → Option U) (mo : VL → RU U) (mr : VL → RU (List U)) : VL → RU U := fun v => (mo v).bind fun o v1 => match rawL o with
  | some _ => (mr v1).bind fun us v2 => ofO (f o us) v2
  | none => .bad
section
variable {C : Ct} {md : Bool} {c c1 : Cf} {E E1 K K1 B : Pr} {l : Lo} {vl : VL} {s : S} {Fs : Nat → List Nat}
theorem sim_oNo : Sim C md relO oNo CC.oNo := fun s l vl E K B Fs r => ⟨_, s, E, [], Fs, rfl, .rfl', r, ⟨rfl, rfl⟩, .nil⟩
theorem sim_oSo {a : VL → RU U} {ma : Lo → S → R W} (ha : SimE C md a ma) : Sim C md relO (oSo a) (CC.oSo ma) := fun s l vl E K B Fs r => by
  refine (ha s l vl E K B Fs r).bind r.bk fun u v w s2 E2 F Fs2 k2 r2 d f => ?_
  cases u with
  | int i => obtain rfl := d.is_int; exact ⟨_, s2, E2, [], Fs2, rfl, k2, r2, ⟨rfl, rfl⟩, .nil⟩
  | _ => trivial
theorem Ds.drop {us : List U} {ws : List W} {F : List Nat} (h : Ds c E B us ws F) (nd : F.Nodup) : ∀ k : Nat, ∃ F', Ds c E B (us.drop k) (ws.drop k) F' ∧ F'.Nodup ∧ ∀ a ∈ F', a ∈ F := by
  induction h with
  | nil => intro k; exact ⟨[], by simp; exact .nil, List.nodup_nil, no⟩
  | cons d r ih =>
    intro k
    have nd2 := List.nodup_append.mp nd
    cases k with
    | zero => exact ⟨_, .cons d r, nd, fun a h => h⟩
    | succ k =>
      obtain ⟨F', h1, h2, h3⟩ := ih nd2.2.1 k
      exact ⟨F', h1, h2, fun a m => List.mem_append_right _ (h3 a m)⟩
theorem Ds.take {us : List U} {ws : List W} {F : List Nat} (h : Ds c E B us ws F) (nd : F.Nodup) : ∀ k : Nat, ∃ F', Ds c E B (us.take k) (ws.take k) F' ∧ F'.Nodup ∧ ∀ a ∈ F', a ∈ F := by
  induction h with
  | nil => intro k; exact ⟨[], by simp; exact .nil, List.nodup_nil, no⟩
  | cons d r ih =>
    intro k
    have nd2 := List.nodup_append.mp nd
    cases k with
    | zero => exact ⟨[], .nil, List.nodup_nil, no⟩
    | succ k =>
      obtain ⟨F', h1, h2, h3⟩ := ih nd2.2.1 k
      exact ⟨_, .cons d h1, List.nodup_append.mpr ⟨nd2.1, h2, fun a m b m2 e => nd2.2.2 a m b (h3 b m2) e⟩, fun a m => (List.mem_append.mp m).elim (List.mem_append_left _) fun m => List.mem_append_right _ (h3 a m)⟩
theorem cut_ok {us : List U} {ws : List W} {F : List Nat} {lo hi : Option Int} (h : Ds c E B us ws F) (nd : F.Nodup) : ∃ F', Ds c E B (cutU us lo hi) (CC.cutW ws lo hi) F' ∧ F'.Nodup ∧ ∀ a ∈ F', a ∈ F := by
  unfold cutU CC.cutW
  rw [h.len]
  obtain ⟨F1, h1, n1, i1⟩ := h.drop nd (HT.sIx ws.length 0 lo)
  obtain ⟨F2, h2, n2, i2⟩ := h1.take n1 (HT.sIx ws.length ws.length hi - HT.sIx ws.length 0 lo)
  exact ⟨F2, h2, n2, fun a m => i1 a (i2 a m)⟩
theorem tup_cut {us : List U} {ws : List W} {lo hi : Option Int} (d : D c E B (.tup us) (.tup ws) []) : D c E B (.tup (cutU us lo hi)) (.tup (CC.cutW ws lo hi)) [] := by
  obtain ⟨T, Z, q, _, t, _⟩ := d
  cases q with
  | z q =>
    cases q with
    | tup r =>
      have hl := r.len
      have sub : ∀ {us : List U} {ws : List W} {T : List Nat}, D0s c us ws [] T → ∀ k : Nat, (∃ T', D0s c (us.drop k) (ws.drop k) [] T' ∧ ∀ a ∈ T', a ∈ T) ∧ ∃ T', D0s c (us.take k) (ws.take k) [] T' ∧ ∀ a ∈ T', a ∈ T := by
        intro us
        induction us with
        | nil => intro ws T r k; cases r; exact ⟨⟨[], by simp; exact .nil, no⟩, ⟨[], by simp; exact .nil, no⟩⟩
        | cons x us ih =>
          intro ws T r k
          generalize hF : ([] : List Nat) = F at r
          cases r with
          | @cons _ w _ vs Fa Ta Fb Tb d r =>
            obtain ⟨rfl, rfl⟩ := List.append_eq_nil_iff.mp hF.symm
            cases k with
            | zero => exact ⟨⟨_, .cons (F := []) d r, fun a h => h⟩, ⟨[], .nil, no⟩⟩
            | succ k =>
              obtain ⟨⟨T1, h1, t1⟩, ⟨T2, h2, t2⟩⟩ := ih r k
              exact ⟨⟨T1, h1, fun a m => List.mem_append_right _ (t1 a m)⟩, ⟨_, .cons (F := []) d h2, fun a m => (List.mem_append.mp m).elim (List.mem_append_left _) fun m => List.mem_append_right _ (t2 a m)⟩⟩
      unfold cutU CC.cutW
      rw [hl]
      obtain ⟨⟨T1, h1, t1⟩, _⟩ := sub r (HT.sIx ws.length 0 lo)
      obtain ⟨_, ⟨T2, h2, t2⟩⟩ := sub h1 (HT.sIx ws.length ws.length hi - HT.sIx ws.length 0 lo)
      exact ⟨T2, [], .z (.tup h2), no, fun a m => t a (t1 a (t2 a m)), no⟩
theorem sim_sl {o : VL → RU U} {mo : Lo → S → R W} {ml mh : VL → RU (Option Int)} {ml' mh' : Lo → S → R (Option Int)} (ho : SimE C md o mo) (hl : Sim C md relO ml ml') (hh : Sim C md relO mh mh') : SimE C md (eSl o ml mh) (CC.eSl C.p mo ml' mh') := fun s l vl E K B Fs r => by
  refine Aft.two (rel3 := D) rmD rmO ho hl r fun x lo v wx wlo s2 E2 F1 F2 Fs2 k2 r2 d1 d2 f2 => ?_
  obtain ⟨rfl, rfl⟩ := d2
  rw [List.append_nil] at f2
  refine (hh s2 l v E2 (kU K F1) B Fs2 (r2.grow f2 (rmD.al d1))).bindK k2 (fun n h => .inl h) r.bk fun hi v3 whi s3 E3 F3 Fs3 k3 r3 d3 f3 => ?_
  obtain ⟨rfl, rfl⟩ := d3
  have d1' := d1.mono k3 r3.bk fun a m => .inr m
  have f1' : Fr F1 K Fs3 := ⟨f2.1, fun a m => ⟨(f2.2 a m).1, fun i => r3.sep r.bk m (f2.2 a m).1 i⟩⟩
  have kk := k2.trans (k3.weak fun n h => .inl h)
  have r3' := r3.weak (K := K) (fun n h => .inl h) r.bk
  have lists : (match lfU x with
    | some us => if (cutU us lo hi).all noB then some (U.lst .o (cutU us lo hi)) else none
    | none => none) = gSl x lo hi → Aft C md (rd C.p s) E K B l D (ofO (gSl x lo hi) v3) (CC.R.ofO (CC.gSl C.p wx lo hi s3)) := fun h => by
    rw [← h]
    cases q : lfU x with
    | none => trivial
    | some us =>
      dsimp only
      split
      · rename_i hb
        obtain ⟨n, ws, F', rfl, e, ds, nd, i⟩ := lfU_ok d1' f1'.1 q
        obtain ⟨F2, ds2, nd2, i2⟩ := cut_ok (lo := lo) (hi := hi) ds nd
        obtain ⟨d, nn⟩ := new_lst ds2 hb r3'.ev nd2
        unfold CC.gSl
        dsimp only
        rw [e]
        exact fin_ext kk r3' f1' ext_al none_al d nn fun a m => (List.mem_cons.mp m).elim (fun e => .inr (by rw [e]; exact rd_nxt)) fun m => .inl (i a (i2 a m))
      · trivial
  cases x with
  | tup us =>
    obtain ⟨rfl, ws, rfl, ds⟩ := d1'.is_tup
    exact ⟨.tup (CC.cutW ws lo hi), s3, E3, [], Fs3, rfl, kk, r3', tup_cut d1', .nil⟩
  | _ => exact lists rfl
theorem rr_it {mi : VL → RU (List U)} {mi' : Lo → S → R ItD} (h : Sim C md RRg mi mi') : Sim C md RIt mi mi' := fun s l vl E K B Fs r => by
  have q := h s l vl E K B Fs r
  cases e : mi vl with
  | ok us v =>
    rw [e] at q
    obtain ⟨d, s2, E2, F, Fs2, e2, k, r2, ⟨hF, lo, st, n, hd, hu⟩, f⟩ := q
    subst hF hd hu
    exact ⟨_, s2, E2, [], Fs2, e2, k, r2, rng_rit, .nil⟩
  | exc k u v => rw [e] at q; exact q
  | bad => trivial
theorem sim_rr1 {a : VL → RU U} {ma : Lo → S → R W} (ha : SimE C md a ma) : Sim C md RRg (iRange1 a) (CC.iRange1 ma) := fun s l vl E K B Fs r => by
  refine (ha s l vl E K B Fs r).bind r.bk fun u v w s2 E2 F Fs2 k2 r2 d f => ?_
  cases u with
  | int j =>
    obtain rfl := d.is_int
    dsimp only
    split
    · exact ⟨_, s2, E2, [], Fs2, rfl, k2, r2, ⟨rfl, _, _, _, rfl, rfl⟩, .nil⟩
    · trivial
  | _ => trivial
theorem sim_dct : SimE C md eDct (CC.eDct C.p) := fun s l vl E K B Fs r =>
  fin_ext .rfl' r .nil ext_al none_al (F := [nxt C.p s]) ⟨[], [], .z (.own rd_new (.dct rfl) .nil), fun a m => by rw [List.mem_singleton.mp m]; exact r.ev _ rd_nxt, no, no⟩ (by simp) fun a m => .inr (by rw [List.mem_singleton.mp m]; exact rd_nxt)
theorem D.to0 {u : U} {w : W} {F : List Nat} (d : D c E B u w F) (q : CV.noB u = true) : ∃ T, D0 c u w F T ∧ (∀ a ∈ F, E a) ∧ ∀ a ∈ T, ¬ E a := by
  obtain ⟨T, Z, d, h1, h2, _⟩ := d
  exact ⟨T, (d.noB q).1, h1, h2⟩
theorem ty_ok {p : Hh} {s : S} {u : U} {w : W} {F : List Nat} (d : D (rd p s) E B u w F) : CC.tyW p s w = some (tyU u) := by
  rcases d.node with rfl | ⟨_, rfl⟩ | ⟨_, rfl⟩ | ⟨_, rfl⟩ | ⟨us, rfl⟩ | ⟨z', us', n, ob, ws, F0, T0, rfl, e, k, r, f⟩
  · obtain rfl := d.is_non; rfl
  · obtain rfl := d.is_bl; rfl
  · obtain rfl := d.is_int; rfl
  · obtain rfl := d.is_str; rfl
  · obtain ⟨_, ws, rfl, _⟩ := d.is_tup; rfl
  · unfold CC.tyW
    dsimp only
    rw [e]
    cases k <;> rfl
theorem sim_isi {q : TK → Option Bool} {a : VL → RU U} {ma : Lo → S → R W} (ha : SimE C md a ma) : SimE C md (eIsi q a) (CC.eIsi C.p q ma) := fun s l vl E K B Fs r => by
  refine (ha s l vl E K B Fs r).bind r.bk fun u v w s2 E2 F Fs2 k2 r2 d f => ?_
  rw [ty_ok d]
  dsimp only
  cases e : q (tyU u) with
  | none => trivial
  | some b => exact ⟨_, s2, E2, [], Fs2, rfl, k2, r2, d_bl, .nil⟩
theorem sim_chain {f f' : Hh → W → W → S → CC.O2} {g g' : U → U → Option U} {a b e : VL → RU U} {ma mb me : Lo → S → R W} (hf : Op2 f g) (hf' : Op2 f' g') (ha : SimE C md a ma) (hb : SimE C md b mb) (he : SimE C md e me) : SimE C md (eChain g g' a b e) (CC.eChain f f' C.p ma mb me) := fun s l vl E K B Fs r => by
  refine Aft.two (rel3 := D) rmD rmD ha hb r fun x y v wx wy s2 E2 F1 F2 Fs2 k2 r2 d1 d2 f2 => ?_
  have nd := List.nodup_append.mp f2.1
  cases q : g x y with
  | none => trivial
  | some u =>
    obtain ⟨w, s3, F, h1, x3, al, d, _, sub⟩ := hf d1 d2 r2.ev f2.1 q
    rw [h1]
    have k3 := k2.trans (x3.keep r2.ka)
    have r3 := r2.ext x3 al
    have d2' := d2.ext x3
    have fy : Fr F2 K Fs2 := ⟨nd.2.1, fun a m => f2.2 a (List.mem_append_right _ m)⟩
    cases u with
    | bl t =>
      obtain rfl := d.is_bl
      cases t with
      | false => exact ⟨_, s3, E2, [], Fs2, rfl, k3, r3, d_bl, .nil⟩
      | true =>
        show Aft C md _ E K B l D ((e v).bind fun u v3 => ofO (g' y u) v3) ((me l s3).bind fun u s4 => CC.R.ofO (f' C.p wy u s4))
        refine (he s3 l v E2 (kU K F2) B Fs2 (r3.grow fy (rmD.al d2'))).bindK k3 (fun n h => .inl h) r.bk fun z v4 wz s4 E4 F4 Fs4 k4 r4 d4 f4 => ?_
        have d2'' := d2'.mono k4 r4.bk fun a m => .inr m
        have r4' := r4.weak (K := K) (fun n h => .inl h) r.bk
        cases q2 : g' y z with
        | none => trivial
        | some u2 =>
          obtain ⟨w5, s5, F5, h5, x5, al5, d5, nd5, sub5⟩ := hf' d2'' d4 r4'.ev (List.nodup_append.mpr ⟨fy.1, f4.1, fun a h b h2 e => (f4.2 b h2).1 (.inr (e ▸ h))⟩) q2
          rw [h5]
          refine fin_ext (k3.trans (k4.weak fun n h => .inl h)) r4' (F1 := F2 ++ F4) ⟨List.nodup_append.mpr ⟨fy.1, f4.1, fun a h b h2 e => (f4.2 b h2).1 (.inr (e ▸ h))⟩, fun a m => ?_⟩ x5 al5 d5 nd5 sub5
          rcases List.mem_append.mp m with m | m
          · exact ⟨(fy.2 a m).1, fun i => r4.sep r.bk m (fy.2 a m).1 i⟩
          · exact ⟨fun h => (f4.2 a m).1 (.inl h), (f4.2 a m).2⟩
    | _ => trivial
end
end CV
set_option Elab.async false
set_option linter.all false
set_option maxRecDepth 100000
namespace CV
open PySem PySem.Spec PyProof.Rows L2
open CC (W Ob S Hh Lo R RS rd wr al nxt ItD i64 mapO TK)
structure Own (c : Cf) (E : Pr) (o : U) (n : Nat) (ob : Ob) (us : List U) (ws : List W) (F T : List Nat) : Prop where
  at_ : c n = some ob
  sh : Sh .o o us ob ws
  ds : D0s c us ws F T
  nd : (n :: F).Nodup
  own : ∀ a ∈ n :: F, E a
  shr : ∀ a ∈ T, ¬ E a
def isOwn : U → Bool
  | .lst .o _ => true
  | .dct .o _ => true
  | .dtt .o _ => true
  | .ins .o _ _ => true
  | _ => false
section
variable {C : Ct} {md : Bool} {c c1 : Cf} {E E1 K K1 B : Pr} {l : Lo} {vl : VL} {s : S} {Fs : Nat → List Nat} {o o' u : U} {w : W} {F : List Nat} {n : Nat} {ob ob' : Ob} {us us' : List U} {ws ws' : List W} {F' T T' : List Nat}
theorem D.toOwn (d : D c E B o w F) (nd : F.Nodup) (h : isOwn o = true) : ∃ n ob us ws F0 T0, w = .ref n ∧ F = n :: F0 ∧ Own c E o n ob us ws F0 T0 := by
  rcases d.node with rfl | ⟨_, rfl⟩ | ⟨_, rfl⟩ | ⟨_, rfl⟩ | ⟨us, rfl⟩ | ⟨z, us', n, ob, ws, F0, T0, rfl, e, k, r, f⟩
  · cases h
  · cases h
  · cases h
  · cases h
  · cases h
  · have hz : z = .o := by
      cases k with
      | lst => cases z <;> first | rfl | cases h
      | frz => cases h
      | dct _ => cases z <;> first | rfl | cases h
      | dtt _ => cases z <;> first | rfl | cases h
      | ins _ => cases z <;> first | rfl | cases h
    subst hz
    obtain ⟨rfl, f1, f2⟩ := f
    exact ⟨n, ob, us', ws, F0, T0, rfl, rfl, e, k, r, nd, f1, f2⟩
theorem SL.write {i : Nat} (r : SL C true (rd C.p s) E K B vl l Fs) (hi : l[i]? = some (some (.ref n))) (hf : Fs i = n :: F) (ow : Own (rd C.p s) E o n ob us ws F T) (sh : Sh .o o' us' ob' ws') (ds : D0s (rd C.p s) us' ws' F' T') (ht : ∀ a ∈ T', ¬ E a) (nd : F'.Nodup)
    (hF : ∀ a ∈ F', a ∈ F ∨ (E a ∧ ¬ K a ∧ ∀ j, a ∉ Fs j)) : Keep (rd C.p s) E K (rd C.p (wr C.p s n ob')) E ∧ SL C true (rd C.p (wr C.p s n ob')) E K B (vl.set i (some o')) l (upF Fs i (n :: F')) := by
  have oi := (r.own rfl).1 i
  have nk : ¬ K n := oi.2 n (by rw [hf]; exact List.mem_cons_self ..)
  have en : E n := ow.own n (List.mem_cons_self ..)
  have na : rd C.p s n ≠ none := by rw [ow.at_]; simp
  have ne := wr_ne (p := C.p) (s := s) (n := n) (o := ob') na
  have at_ := wr_at (p := C.p) (s := s) (n := n) (o := ob') na
  have nf : n ∉ F' := fun m => (hF n m).elim (fun m => (List.nodup_cons.mp ow.nd).1 m) fun h => h.2.2 i (by rw [hf]; exact List.mem_cons_self ..)
  -- without the slot
  have r0 := r.put i none (.ref n) l rfl (fun _ _ => rfl) (fun u z => (nomatch z)) r.mpk List.nodup_nil no
  have n0 : ∀ j, n ∉ upF Fs i [] j := fun j h => by
    by_cases e : j = i
    · rw [e, upF_same] at h; cases h
    · rw [upF_ne e] at h
      exact e ((r.own rfl).2 j i n h (by rw [hf]; exact List.mem_cons_self ..))
  have r1 := r0.upd ne (by rw [at_]; simp) en nk n0
  have d1 : D0s (rd C.p (wr C.p s n ob')) us' ws' F' T' := ds.mono fun a m => ne a fun e => by
    subst e
    exact m.elim nf fun m => ht _ m en
  have r2 := r1.put i (some o') (.ref n) l rfl (fun _ _ => rfl) (fun u z _ => by
    cases z
    exact ⟨hi, T', [], .z (.own at_ sh d1), fun a m => (List.mem_cons.mp m).elim (fun e => by rw [e]; exact en) fun m => (hF a m).elim (fun m => ow.own a (List.mem_cons_of_mem _ m)) fun h => h.1, ht, no⟩) r.mpk (List.nodup_cons.mpr ⟨nf, nd⟩) (fun a m => by
    have al : ∀ a, rd C.p s a ≠ none → rd C.p (wr C.p s n ob') a ≠ none := fun a h => by
      by_cases e : a = n
      · rw [e, at_]; simp
      · rw [ne a e]; exact h
    have alive := ds.alive
    rcases List.mem_cons.mp m with rfl | m
    · exact ⟨by rw [at_]; simp, en, fun _ => ⟨nk, fun j e h => n0 j h⟩, fun z => (nomatch z)⟩
    · refine ⟨al a (alive a (.inl m)), (hF a m).elim (fun m => ow.own a (List.mem_cons_of_mem _ m)) (fun h => h.1), fun _ => ?_, fun z => (nomatch z)⟩
      rcases hF a m with m2 | h
      · have ma : a ∈ Fs i := by rw [hf]; exact List.mem_cons_of_mem _ m2
        exact ⟨oi.2 a ma, fun j e h => by rw [upF_ne e] at h; exact e ((r.own rfl).2 j i a h ma)⟩
      · exact ⟨h.2.1, fun j e h2 => by rw [upF_ne e] at h2; exact h.2.2 j h2⟩)
  rw [List.set_set] at r2
  have eF : upF (upF Fs i []) i (n :: F') = upF Fs i (n :: F') := funext fun j => by
    by_cases e : j = i
    · rw [e, upF_same, upF_same]
    · rw [upF_ne e, upF_ne e, upF_ne e]
  rw [eF] at r2
  exact ⟨Keep.upd ne (by rw [at_]; simp) en nk, r2⟩
end
def MtW (f : Hh → W → List W → S → CC.O2) (g : U → List U → Option (U × U)) : Prop :=
  ∀ {p : Hh} {s : S} {E B : Pr} {o o' r : U} {n : Nat} {ob : Ob} {us : List U} {ws : List W} {F T : List Nat} {xs : List U} {wx : List W} {Fx : List Nat}, Own (rd p s) E o n ob us ws F T → Ds (rd p s) E B xs wx Fx → (n :: F ++ Fx).Nodup → g o xs = some (r, o') →
    ∃ w ob' us' ws' F' T' Fr, f p (.ref n) wx s = some (w, wr p s n ob') ∧ Sh .o o' us' ob' ws' ∧ D0s (rd p s) us' ws' F' T' ∧ (∀ a ∈ T', ¬ E a) ∧ (∀ a ∈ F', a ∈ F ∨ a ∈ Fx) ∧ D (rd p s) E nB r w Fr ∧ (∀ a ∈ Fr, a ∈ F ∨ a ∈ Fx) ∧ (F' ++ Fr).Nodup
def eMut (i : Nat) (g : U → List U → Option (U × U)) (mr : VL → RU (List U)) : VL → RU U := fun v => match v[i]? with
  | some (some (.lst .o _)) => (mr v).bind fun us v1 => (match v1[i]? with
    | some (some o) => if isOwn o then (match g o us with
      | some (r, o') => .ok r (v1.set i (some o'))
      | none => .bad) else .bad
    | _ => .bad)
  | _ => .bad
def mAppend (o : U) (xs : List U) : Option (U × U) := match o, xs with
  | .lst .o us, [u] => if us.length < 1000000 ∧ noB u = true then some (.non, .lst .o (us ++ [u])) else none
  | _, _ => none
def mPop (o : U) (xs : List U) : Option (U × U) := match o, xs with
  | .lst .o us, [] => (match us[us.length - 1]? with | some u => some (u, .lst .o us.dropLast) | none => none)
  | _, _ => none
section
variable {C : Ct} {md : Bool} {c c1 : Cf} {E E1 K K1 B : Pr} {l : Lo} {vl : VL} {s : S} {Fs : Nat → List Nat} {o o' u : U} {w : W} {F : List Nat} {n : Nat} {ob ob' : Ob} {us us' : List U} {ws ws' : List W} {F' T T' : List Nat}
theorem sim_mut {i : Nat} {f : Hh → W → List W → S → CC.O2} {g : U → List U → Option (U × U)} {a : VL → RU (List U)} {ma : Lo → S → R (List W)} (h : MtW f g) (ha : SimA C true a ma) : SimE C true (eMut i g a) (CC.eBm CC.isLst f C.p (CC.eVar i) ma) := fun s l vl E K B Fs r => by
  unfold eMut
  split
  · rename_i us0 ho0
    obtain ⟨w0, hw, d0⟩ := r.has i _ ho0
    obtain ⟨n0, ws0, _, _, rfl, e0, _⟩ := d0.lst
    have e1 : CC.eBm CC.isLst f C.p (CC.eVar i) ma l s = (ma l s).bind fun xs s2 => CC.R.ofO (f C.p (.ref n0) xs s2) := by
      unfold CC.eBm
      rw [var_ok hw]
      show (if CC.isLst C.p s (.ref n0) = true then _ else _) = _
      rw [if_pos]
      unfold CC.isLst CC.cellL CC.cellItems
      dsimp only
      rw [e0]
    rw [e1]
    refine (ha s l vl E K B Fs r).bind r.bk fun xs v wx s2 E2 F1 Fs2 k2 r2 d2 f2 => ?_
    split
    · rename_i o ho
      split
      · rename_i hown
        cases q : g o xs with
        | none => trivial
        | some ro =>
          obtain ⟨rv, o'⟩ := ro
          obtain ⟨w1, hw1, d1⟩ := r2.has i o ho
          rw [hw] at hw1
          cases hw1
          have oi := (r2.own rfl).1 i
          obtain ⟨n, ob, us, ws, F0, T0, ew, eF, ow⟩ := d1.toOwn oi.1 hown
          cases ew
          obtain ⟨w, ob', us', ws', F', T', Fr', h1, h2, h3, h4, h5, h6, h7, h8⟩ := h ow d2 (by
            rw [← eF]
            exact List.nodup_append.mpr ⟨oi.1, f2.1, fun a h b h2 e => (f2.2 b h2).2 i (e ▸ h)⟩) q
          rw [h1]
          have nd8 := List.nodup_append.mp h8
          obtain ⟨k3, r3⟩ := r2.write hw eF ow h2 h3 h4 nd8.1 fun a m => (h5 a m).imp id fun m => ⟨d2.own a m, f2.2 a m⟩
          have mi : ∀ a, a ∈ F0 → a ∈ Fs2 i := fun a m => by rw [eF]; exact List.mem_cons_of_mem _ m
          have nn : n0 ∉ Fr' := fun m => (h7 _ m).elim (List.nodup_cons.mp ow.nd).1 fun m => (f2.2 _ m).2 i (by rw [eF]; exact List.mem_cons_self ..)
          refine ⟨w, _, E2, Fr', _, rfl, k2.trans k3, r3, (h6.upd (wr_ne (by rw [ow.at_]; simp)) (ow.own _ (List.mem_cons_self ..)) id nn).in (fun _ h => h.elim), nd8.2.1, fun a m => ⟨?_, fun j hj => ?_⟩⟩
          · exact (h7 a m).elim (fun m => oi.2 a (mi a m)) fun m => (f2.2 a m).1
          · by_cases e : j = i
            · rw [e, upF_same] at hj
              rcases List.mem_cons.mp hj with rfl | hj
              · exact nn m
              · exact nd8.2.2 a hj a m rfl
            · rw [upF_ne e] at hj
              exact (h7 a m).elim (fun m => e ((r2.own rfl).2 j i a hj (mi a m))) fun m => (f2.2 a m).2 j hj
      · trivial
    · trivial
  · trivial
theorem D0s.app {a b : List U} {v1 v2 : List W} {F1 F2 T1 T2 : List Nat} (h1 : D0s c a v1 F1 T1) (h2 : D0s c b v2 F2 T2) : D0s c (a ++ b) (v1 ++ v2) (F1 ++ F2) (T1 ++ T2) := by
  induction a generalizing v1 F1 T1 with
  | nil => cases h1; exact h2
  | cons x a ih =>
    cases h1 with
    | cons d r => rw [List.append_assoc, List.append_assoc]; exact .cons d (ih r)
theorem D0s.one {x : U} {w : W} {F T : List Nat} (d : D0 c x w F T) : D0s c [x] [w] F T := by
  have := D0s.cons d .nil
  simp only [List.append_nil] at this
  exact this
theorem D0s.dropLast {xs : List U} {vs : List W} {F T : List Nat} (h : D0s c xs vs F T) : ∀ {u : U}, xs[xs.length - 1]? = some u → ∃ w F1 T1 F2 T2, vs[vs.length - 1]? = some w ∧ D0s c xs.dropLast vs.dropLast F1 T1 ∧ D0 c u w F2 T2 ∧ F = F1 ++ F2 ∧ T = T1 ++ T2 := by
  induction xs generalizing vs F T with
  | nil => intro u e; simp at e
  | cons x xs ih =>
    intro u e
    cases h with
    | @cons _ w _ vs Fa Ta Fb Tb d r =>
      cases xs with
      | nil =>
        cases r
        simp at e
        subst e
        exact ⟨w, [], [], Fa, Ta, rfl, .nil, d, by simp, by simp⟩
      | cons y xs =>
        cases vs with
        | nil => cases r
        | cons v vs =>
          obtain ⟨w', F1, T1, F2, T2, h1, h2, h3, rfl, rfl⟩ := ih r (u := u) (by simpa using e)
          refine ⟨w', Fa ++ F1, Ta ++ T1, F2, T2, by simpa using h1, ?_, h3, by simp, by simp⟩
          exact .cons d h2
theorem sh_lst {z : Fl} (k : Sh z (.lst z us') us ob ws) : us = us' ∧ ob = .lst ws := by
  cases k; exact ⟨rfl, rfl⟩
theorem D.nb (d : D0 c u w F T) (h1 : ∀ a ∈ F, E a) (h2 : ∀ a ∈ T, ¬ E a) : D c E nB u w F := ⟨T, [], .z d, h1, h2, no⟩
theorem x_mAppend : MtW CC.fAppend mAppend := fun {p s E B o o' r n ob us ws F T xs wx Fx} ow dx nd e => by
  unfold mAppend at e
  split at e
  · rename_i us0 u
    split at e
    · rename_i h
      cases e
      obtain ⟨rfl, rfl⟩ := sh_lst ow.sh
      obtain ⟨w, rfl, d⟩ := dx.one
      obtain ⟨T1, d0, t1, t2⟩ := d.to0 h.2
      have hn := (List.nodup_append.mp nd)
      refine ⟨.non, .lst (ws ++ [w]), _, ws ++ [w], _, _, [], by unfold CC.fAppend; dsimp only; rw [ow.at_]; dsimp only; rw [if_pos (by rw [← ow.ds.len]; exact h.1)], .lst, ow.ds.app (.one d0), fun a m => (List.mem_append.mp m).elim (ow.shr a) (t2 a), fun a m => List.mem_append.mp m, d_non, no, ?_⟩
      rw [List.append_nil]
      exact List.nodup_append.mpr ⟨(List.nodup_cons.mp hn.1).2, hn.2.1, fun a h b h2 => hn.2.2 a (List.mem_cons_of_mem _ h) b h2⟩
    · cases e
  · cases e
theorem x_mPop : MtW CC.fPop mPop := fun {p s E B o o' r n ob us ws F T xs wx Fx} ow dx nd e => by
  unfold mPop at e
  split at e
  · rename_i us0
    split at e
    · rename_i u hu
      cases e
      obtain ⟨rfl, rfl⟩ := sh_lst ow.sh
      cases dx
      obtain ⟨w, F1, T1, F2, T2, h1, h2, h3, rfl, rfl⟩ := ow.ds.dropLast hu
      have hn := (List.nodup_cons.mp ow.nd)
      exact ⟨w, .lst ws.dropLast, _, ws.dropLast, F1, T1, F2, by unfold CC.fPop; dsimp only; rw [ow.at_]; dsimp only; rw [h1], .lst, h2, fun a m => ow.shr a (List.mem_append_left _ m), fun a m => .inl (List.mem_append_left _ m), D.nb h3 (fun a m => ow.own a (List.mem_cons_of_mem _ (List.mem_append_right _ m))) (fun a m => ow.shr a (List.mem_append_right _ m)), fun a m => .inl (List.mem_append_right _ m), hn.2⟩
    · cases e
  · cases e
end
end CV
set_option Elab.async false
set_option linter.all false
set_option maxRecDepth 100000
namespace CV
open PySem PySem.Spec PyProof.Rows L2
open CC (W Ob S Hh Lo R RS rd wr al nxt ItD i64 mapO TK)
def setO (o j u : U) : Option U := match o, j with
  | .lst .o us, .int i => (match ixN us.length i with | some k => if noB u then some (.lst .o (us.set k u)) else none | none => none)
  | .dct .o kvs, j => (match keyU j with | some k => if kvs.length < 1000000 ∧ (noB u && noO u) = true then some (.dct .o (putKU kvs k u)) else none | none => none)
  | .dtt .o kvs, j => (match keysU j with | some k => if kvs.length < 1000000 ∧ (noB u && noO u) = true then some (.dtt .o (putKU kvs k u)) else none | none => none)
  | _, _ => none
def gSt (i : Nat) (mi : VL → RU U) : U → VL → Option VL := fun u v => match v[i]? with
  | some (some _) => (match mi v with
    | .ok j v1 => (match v1[i]? with
      | some (some o) => (match setO o j u with
        | some o' => some (v1.set i (some o'))
        | none => none)
      | _ => none)
    | _ => none)
  | _ => none
def gFz (g : U → VL → Option VL) : U → VL → Option VL := fun u v => g (frz u) v
def putFU (i : Nat) (w : U) : List (Nat × U) → List (Nat × U)
  | [] => [(i, w)]
  | (j, u) :: r => if j = i then (j, w) :: r else (j, u) :: putFU i w r
def sFldA (k i j : Nat) (me : VL → RU U) : VL → RSU := fun v => (me v).toS fun u v1 => match v1[j]? with
  | some (some (.ins .o d fs)) => if d = k ∧ fs.length < 900 ∧ noB u = true then .nx (v1.set j (some (.ins .o k (putFU i u fs)))) else .bad
  | _ => .bad
section
variable {C : Ct} {md : Bool} {c c1 : Cf} {E E1 K K1 B : Pr} {l : Lo} {vl : VL} {s : S} {Fs : Nat → List Nat} {o o' u : U} {w : W} {F : List Nat} {n : Nat} {ob ob' : Ob} {us us' : List U} {ws ws' : List W} {F' T T' : List Nat}
theorem D0s.set {xs : List U} {vs : List W} {F T : List Nat} (h : D0s c xs vs F T) {u : U} {w : W} {Fu Tu : List Nat} (d : D0 c u w Fu Tu) (nd : (F ++ Fu).Nodup) : ∀ k : Nat, ∃ F' T', D0s c (xs.set k u) (vs.set k w) F' T' ∧ F'.Nodup ∧ (∀ a ∈ F', a ∈ F ∨ a ∈ Fu) ∧ ∀ a ∈ T', a ∈ T ∨ a ∈ Tu := by
  induction xs generalizing vs F T with
  | nil => intro k; cases h; exact ⟨[], [], .nil, List.nodup_nil, no, no⟩
  | cons x xs ih =>
    intro k
    cases h with
    | @cons _ w' _ vs Fa Ta Fb Tb d' r =>
      have n1 := List.nodup_append.mp nd
      have n2 := List.nodup_append.mp n1.1
      cases k with
      | zero => exact ⟨Fu ++ Fb, Tu ++ Tb, .cons d r, List.nodup_append.mpr ⟨n1.2.1, n2.2.1, fun a m b m2 e => n1.2.2 b (List.mem_append_right _ m2) a m e.symm⟩, fun a m => (List.mem_append.mp m).elim .inr fun m => .inl (List.mem_append_right _ m), fun a m => (List.mem_append.mp m).elim .inr fun m => .inl (List.mem_append_right _ m)⟩
      | succ k =>
        obtain ⟨F', T', h1, h2, h3, h4⟩ := ih r (List.nodup_append.mpr ⟨n2.2.1, n1.2.1, fun a m b m2 e => n1.2.2 a (List.mem_append_right _ m) b m2 e⟩) k
        refine ⟨Fa ++ F', Ta ++ T', .cons d' h1, List.nodup_append.mpr ⟨n2.1, h2, fun a m b m2 e => ?_⟩, fun a m => (List.mem_append.mp m).elim (fun m => .inl (List.mem_append_left _ m)) fun m => (h3 a m).imp (List.mem_append_right _) id, fun a m => (List.mem_append.mp m).elim (fun m => .inl (List.mem_append_left _ m)) fun m => (h4 a m).imp (List.mem_append_right _) id⟩
        rcases h3 b m2 with m2 | m2
        · exact n2.2.2 a m b m2 e
        · exact n1.2.2 a (List.mem_append_left _ m) b m2 e
theorem putK_ok {κ : Type} [DecidableEq κ] {k : κ} {u : U} {w : W} {Tu : List Nat} (d : D0 c u w [] Tu) : ∀ {kvs : List (κ × U)} {kws : List (κ × W)} {F T : List Nat}, kvs.map (·.1) = kws.map (·.1) → D0s c (kvs.map (·.2)) (kws.map (·.2)) F T → F.Nodup →
    hasU k kvs = CC.hasW k kws ∧ ∃ F' T', (setU k u kvs).map (·.1) = (CC.setW k w kws).map (·.1) ∧ D0s c ((setU k u kvs).map (·.2)) ((CC.setW k w kws).map (·.2)) F' T' ∧ F'.Nodup ∧ (∀ a ∈ F', a ∈ F) ∧ ∀ a ∈ T', a ∈ T ∨ a ∈ Tu
  | [], [], F, T, h, ds, nd => ⟨rfl, F, T, rfl, ds, nd, fun a h => h, fun a h => .inl h⟩
  | [], _ :: _, F, T, h, ds, nd => by cases h
  | _ :: _, [], F, T, h, ds, nd => by cases h
  | (j, x) :: kvs, (j', y) :: kws, F, T, h, ds, nd => by
    simp only [List.map_cons, List.cons.injEq] at h
    obtain ⟨rfl, h⟩ := h
    cases ds with
    | @cons _ _ _ _ Fa Ta Fb Tb d' r =>
      have n2 := List.nodup_append.mp nd
      obtain ⟨i1, F', T', i2, i3, i4, i5, i6⟩ := putK_ok (k := k) d h r n2.2.1
      unfold hasU CC.hasW setU CC.setW
      by_cases e : j = k
      · simp only [if_pos e, List.map_cons, i2]
        exact ⟨trivial, F', Tu ++ T', trivial, .cons (F := []) d i3, i4, fun a m => List.mem_append_right _ (i5 a m), fun a m => (List.mem_append.mp m).elim .inr fun m => (i6 a m).imp (List.mem_append_right _) id⟩
      · simp only [if_neg e, List.map_cons, i2]
        exact ⟨i1, Fa ++ F', Ta ++ T', trivial, .cons d' i3, List.nodup_append.mpr ⟨n2.1, i4, fun a m b m2 e => n2.2.2 a m b (i5 b m2) e⟩, fun a m => (List.mem_append.mp m).elim (List.mem_append_left _) fun m => List.mem_append_right _ (i5 a m), fun a m => (List.mem_append.mp m).elim (fun m => .inl (List.mem_append_left _ m)) fun m => (i6 a m).imp (List.mem_append_right _) id⟩
theorem putKU_ok {κ : Type} [DecidableEq κ] {k : κ} {u : U} {w : W} {Tu : List Nat} (d : D0 c u w [] Tu) {kvs : List (κ × U)} {kws : List (κ × W)} {F T : List Nat} (h : kvs.map (·.1) = kws.map (·.1)) (ds : D0s c (kvs.map (·.2)) (kws.map (·.2)) F T) (nd : F.Nodup) :
    ∃ F' T', (putKU kvs k u).map (·.1) = (CC.putKW kws k w).map (·.1) ∧ D0s c ((putKU kvs k u).map (·.2)) ((CC.putKW kws k w).map (·.2)) F' T' ∧ F'.Nodup ∧ (∀ a ∈ F', a ∈ F) ∧ ∀ a ∈ T', a ∈ T ∨ a ∈ Tu := by
  obtain ⟨i1, F', T', i2, i3, i4, i5, i6⟩ := putK_ok (k := k) d h ds nd
  unfold putKU CC.putKW
  rw [← i1]
  cases hasU k kvs with
  | true => exact ⟨F', T', i2, i3, i4, i5, i6⟩
  | false =>
    simp only [Bool.false_eq_true, if_false, List.map_append, h, List.map_cons, List.map_nil]
    refine ⟨F ++ [], T ++ Tu, trivial, ?_, by rw [List.append_nil]; exact nd, fun a m => by simpa using m, fun a m => List.mem_append.mp m⟩
    exact ds.app (.one d)
theorem setO_ok {p : Hh} {j : U} {wj wu : W} {Fj Fu : List Nat} (ow : Own (rd p s) E o n ob us ws F T) (dj : D (rd p s) E B j wj Fj) (du : D (rd p s) E B u wu Fu) (nd : (n :: F ++ Fu).Nodup) (h : setO o j u = some o') :
    ∃ ob' us' ws' F' T', CC.gSetX p (.ref n) wj wu s = some (wr p s n ob') ∧ Sh .o o' us' ob' ws' ∧ D0s (rd p s) us' ws' F' T' ∧ (∀ a ∈ T', ¬ E a) ∧ F'.Nodup ∧ ∀ a ∈ F', a ∈ F ∨ a ∈ Fu := by
  have hn := List.nodup_append.mp nd
  have ndF := (List.nodup_cons.mp hn.1).2
  unfold setO at h
  split at h
  · rename_i us0 i
    split at h
    · rename_i k hk
      split at h
      · rename_i hb
        cases h
        obtain rfl := dj.is_int
        obtain ⟨rfl, rfl⟩ := sh_lst ow.sh
        obtain ⟨T1, d0, t1, t2⟩ := du.to0 hb
        obtain ⟨F', T', h1, h2, h3, h4⟩ := ow.ds.set d0 (List.nodup_append.mpr ⟨ndF, hn.2.1, fun a m b m2 => hn.2.2 a (List.mem_cons_of_mem _ m) b m2⟩) k
        exact ⟨.lst (ws.set k wu), _, _, F', T', by unfold CC.gSetX; dsimp only; rw [ow.at_]; dsimp only; rw [← ow.ds.len, hk], .lst, h1, fun a m => (h4 a m).elim (ow.shr a) (t2 a), h2, h3⟩
      · cases h
    · cases h
  · rename_i kvs
    split at h
    · rename_i k hk
      split at h
      · rename_i hl
        cases h
        rw [Bool.and_eq_true] at hl
        obtain rfl := du.noO hl.2.2
        obtain ⟨T1, d0, t1, t2⟩ := du.to0 hl.2.1
        have sh := ow.sh
        have ds := ow.ds
        have at_ := ow.at_
        cases sh with
        | @dct _ _ kws hk2 =>
          obtain ⟨F', T', h1, h2, h3, h4, h5⟩ := putKU_ok (k := k) d0 hk2 ds ndF
          have hl2 : kws.length < 1000000 := by
            have := congrArg List.length hk2
            simp only [List.length_map] at this
            omega
          exact ⟨.dct (CC.putKW kws k wu), _, _, F', T', by unfold CC.gSetX; dsimp only; rw [at_]; dsimp only; rw [key_ok dj hk]; dsimp only; rw [if_pos hl2], .dct h1, h2, fun a m => (h5 a m).elim (ow.shr a) (t2 a), h3, fun a m => .inl (h4 a m)⟩
      · cases h
    · cases h
  · rename_i kvs
    split at h
    · rename_i k hk
      split at h
      · rename_i hl
        cases h
        rw [Bool.and_eq_true] at hl
        obtain rfl := du.noO hl.2.2
        obtain ⟨T1, d0, t1, t2⟩ := du.to0 hl.2.1
        have sh := ow.sh
        have ds := ow.ds
        have at_ := ow.at_
        cases sh with
        | @dtt _ _ kws hk2 =>
          obtain ⟨F', T', h1, h2, h3, h4, h5⟩ := putKU_ok (k := k) d0 hk2 ds ndF
          have hl2 : kws.length < 1000000 := by
            have := congrArg List.length hk2
            simp only [List.length_map] at this
            omega
          exact ⟨.dtt (CC.putKW kws k wu), _, _, F', T', by unfold CC.gSetX; dsimp only; rw [at_]; dsimp only; rw [keys_ok dj hk]; dsimp only; rw [if_pos hl2], .dtt h1, h2, fun a m => (h5 a m).elim (ow.shr a) (t2 a), h3, fun a m => .inl (h4 a m)⟩
      · cases h
    · cases h
  · cases h
theorem sim_sub {i : Nat} {a : VL → RU U} {ma : Lo → S → R W} (ha : SimE C true a ma) : SimG C (gSt i a) (CC.gSubT CC.gSetX C.p (CC.eVar i) ma) := fun s l vl E K B Fs u w F r d f => by
  unfold gSt
  cases e0 : vl[i]? with
  | none => trivial
  | some o0 => cases o0 with
    | none => trivial
    | some u0 =>
      dsimp only
      obtain ⟨w0, hw, d0⟩ := r.has i u0 e0
      have h := ha s l vl E (kU K F) B Fs (r.grow f fun a m => ⟨d.alive a m, d.own a m⟩)
      cases e : a vl with
      | bad => trivial
      | exc _ _ _ => trivial
      | ok j v1 =>
        rw [e] at h
        obtain ⟨wj, s2, E2, Fj, Fs2, e2, k2, r2, dj, fj⟩ := h
        dsimp only
        cases e3 : v1[i]? with
        | none => trivial
        | some o1 => cases o1 with
          | none => trivial
          | some o =>
            dsimp only
            cases q : setO o j u with
            | none => trivial
            | some o' =>
              dsimp only
              have hown : isOwn o = true := by
                unfold setO at q
                split at q <;> first | rfl | cases q
              obtain ⟨w1, hw1, d1⟩ := r2.has i o e3
              rw [hw] at hw1
              cases hw1
              have oi := (r2.own rfl).1 i
              obtain ⟨n, ob, us, ws, F0, T0, ew, eF, ow⟩ := d1.toOwn oi.1 hown
              subst ew
              have d' := d.mono k2 (fun n h => .inl (r.bk n h)) fun a m => .inr m
              have r2' := r2.weak (K := K) (fun n h => .inl h) r.bk
              have ff : ∀ a ∈ F, ¬ K a ∧ ∀ j, a ∉ Fs2 j := fun a m => ⟨(f.2 a m).1, fun j => r2.sep r.bk m (f.2 a m).1 j⟩
              obtain ⟨ob', us', ws', F', T', h1, h2, h3, h4, h5, h6⟩ := setO_ok ow dj d' (by
                rw [← eF]
                exact List.nodup_append.mpr ⟨oi.1, f.1, fun a h b h2 e => (ff b h2).2 i (e ▸ h)⟩) q
              obtain ⟨k3, r3⟩ := r2'.write hw eF ow h2 h3 h4 h5 fun a m => (h6 a m).imp id fun m => ⟨d'.own a m, ff a m⟩
              refine ⟨l, wr C.p s2 n ob', E2, _, ?_, (k2.weak fun n h => .inl h).trans k3, r3⟩
              unfold CC.gSubT
              rw [var_ok hw]
              dsimp only
              rw [e2]
              dsimp only
              rw [h1]
theorem sim_fz {g : U → VL → Option VL} {m : W → Lo → S → CC.OG} (h : SimG C g m) : SimG C (gFz g) m := fun s l vl E K B Fs u w F r d f => by
  have q := h s l vl (dn E F) K B Fs (frz u) w [] (r.dn f.2 d.alive) d.frz' .nil
  unfold gFz
  cases e : g (frz u) vl with
  | none => trivial
  | some v =>
    rw [e] at q
    obtain ⟨l', s', E', Fs', h1, h2, h3⟩ := q
    exact ⟨l', s', E', Fs', h1, (Keep.dn fun a m => (f.2 a m).1).trans h2, h3⟩
end
structure HCV where
  cx : Nat
  no : List Nat
  slot : Option Nat
  su : U → VL → RSU
inductive SimH (C : Ct) : List HCV → List CC.HC → Prop
  | nil : SimH C [] []
  | bare {cx : Nat} {no : List Nat} {su : U → VL → RSU} {su' : W → Lo → S → RS} {hs : List HCV} {hs' : List CC.HC} (h : ∀ u w, SimS ⟨C.p, (u, w) :: C.aux, C.mp, C.mi⟩ (su u) (su' w)) (r : SimH C hs hs') : SimH C (⟨cx, no, none, su⟩ :: hs) (⟨cx, no, none, su'⟩ :: hs')
  | named {cx : Nat} {no : List Nat} {i : Nat} {su : U → VL → RSU} {su' : W → Lo → S → RS} {hs : List HCV} {hs' : List CC.HC} (hm : C.mp = none ∨ i ≠ C.mi) (h : ∀ u w, SimS ⟨C.p, (u, w) :: C.aux, C.mp, C.mi⟩ (su u) (su' w)) (r : SimH C hs hs') : SimH C (⟨cx, no, some i, su⟩ :: hs) (⟨cx, no, some i, su'⟩ :: hs')
section
variable {C : Ct} {md : Bool} {c c1 : Cf} {E E1 K K1 B : Pr} {l : Lo} {vl : VL} {s : S} {Fs : Nat → List Nat} {o o' u : U} {w : W} {F : List Nat}
end
theorem yes_of {F : List U → RF} {m : Hh → List W → R W} (hF : SimF none F m) {ns : List Int} {o : U} (h : F [.frz ns] = .ok (.bl true) o) : CC.Yes (m [.frz ns] [.ref 0]) := by
  have q := hF [.frz ns] [.frz ns] [.ref 0] (fun n => n ≠ 0) (fun _ => False) (fun _ => False) [] (.cons (F := []) ⟨[0], [], .z (.shr (n := 0) (ob := .frz ns) rfl .frz .nil), no, fun a m => by rw [List.mem_singleton.mp m]; exact fun z => z rfl, no⟩ .nil) List.nodup_nil no (fun n hn => by
    rintro rfl
    cases hn) (fun _ h => h) (fun _ h => h.elim)
  rw [h] at q
  obtain ⟨w, s, E', F', Fo, e, k, ev, d, _⟩ := q
  obtain rfl := d.is_bl
  exact ⟨s, e⟩
end CV
set_option Elab.async false
set_option linter.all false
set_option maxRecDepth 100000
namespace CV
open PySem PySem.Spec PyProof.Rows L2
open CC (W Ob S Hh Lo R RS rd wr al nxt ItD)
end CV
set_option Elab.async false
set_option linter.all false
set_option maxRecDepth 100000
namespace CV
open PySem PySem.Spec PyProof.Rows L2
open CC (W Ob S Hh Lo R RS rd wr al nxt ItD)
end CV
set_option Elab.async false
set_option linter.all false
set_option maxRecDepth 100000
namespace CV
open PySem PySem.Spec PyProof.Rows L2
open CC (W Ob S Hh Lo R RS rd wr al nxt srtB insB lexL ndI Rl2)
section
variable {p : Hh} {s : S} {c : Cf} {E B : Pr} {u : U} {w : W} {us : List U} {ws : List W} {F T F0 T0 : List Nat} {n : Nat}
end
end CV
set_option Elab.async false
set_option linter.all false
set_option maxRecDepth 100000
namespace CV
open PySem PySem.Spec PyProof.Rows L2
open CC (W Ob S Hh Lo R RS rd wr al nxt)
section
variable {C : Ct}
theorem sim_weak {vm : VL → RSU} {m m' : Lo → S → RS} (h : SimS C vm m) (e : ∀ l s, m l s ≠ .bad → m' l s = m l s) : SimS C vm m' := fun s l vl E K B Fs r => by
  have q := h s l vl E K B Fs r
  cases z : vm vl with
  | bad => trivial
  | nx v =>
    rw [z] at q
    obtain ⟨l', s', E', Fs', e1, q2⟩ := q
    exact ⟨l', s', E', Fs', (e l s (by rw [e1]; exact fun z => by cases z)).trans e1, q2⟩
  | brk v =>
    rw [z] at q
    obtain ⟨l', s', E', Fs', e1, q2⟩ := q
    exact ⟨l', s', E', Fs', (e l s (by rw [e1]; exact fun z => by cases z)).trans e1, q2⟩
  | ct v =>
    rw [z] at q
    obtain ⟨l', s', E', Fs', e1, q2⟩ := q
    exact ⟨l', s', E', Fs', (e l s (by rw [e1]; exact fun z => by cases z)).trans e1, q2⟩
  | ret u v =>
    rw [z] at q
    obtain ⟨w, l', s', E', F, Fs', e1, q2⟩ := q
    exact ⟨w, l', s', E', F, Fs', (e l s (by rw [e1]; exact fun z => by cases z)).trans e1, q2⟩
  | exc k u v =>
    rw [z] at q
    obtain ⟨w, l', s', E', Fs', e1, q2⟩ := q
    exact ⟨w, l', s', E', Fs', (e l s (by rw [e1]; exact fun z => by cases z)).trans e1, q2⟩
theorem sim_part2 {i j : Nat} {g1 g2 : U → VL → Option VL} {a : VL → RU (List U)} {ma : Lo → S → R (List W)} (h1 : SimG C g1 (CC.gNm i)) (h2 : SimG C g2 (CC.gNm j)) (ha : SimA C true a ma) : SimS C (sPar2 g1 g2 a) (CC.sAsg (CC.gTupT 2 (CC.gsCons (CC.gNm i) (CC.gsCons (CC.gNm j) CC.gsNil))) (CC.eTup ma)) :=
  sim_weak (sim_par2 h1 h2 ha) fun l s h => by
    unfold CC.sPar2 at h ⊢
    unfold CC.sAsg CC.eTup
    cases z : ma l s with
    | bad => rw [z] at h; exact absurd rfl h
    | exc c w s1 => rfl
    | ok ws s1 =>
      rw [z] at h
      match ws, h with
      | [], h => exact absurd rfl h
      | [_], h => exact absurd rfl h
      | [x, y], h =>
        unfold CC.R.bind
        dsimp only
        rw [if_pos (show [x, y].length ≤ 1000000 by show 2 ≤ 1000000; decide)]
        rfl
      | _ :: _ :: _ :: _, h => exact absurd rfl h
end
end CV
set_option Elab.async false
set_option linter.all false
set_option maxRecDepth 100000
namespace CV
open PySem PySem.Spec PyProof.Rows L2
open CC (W Ob S Hh Lo R RS rd wr al nxt)
section
variable {C : Ct}
end
end CV
set_option Elab.async false
set_option linter.all false
set_option maxRecDepth 100000
namespace CV
open PySem PySem.Spec PyProof.Rows L2
open CC (W Ob S Hh Lo R RS rd wr al nxt srtB insB lexL ndI Rl2)
section
variable {C : Ct} {md : Bool} {c c1 : Cf} {E E1 K K1 B : Pr} {l : Lo} {vl : VL} {s : S} {Fs : Nat → List Nat}
end
end CV
set_option Elab.async false
set_option linter.all false
set_option maxRecDepth 100000
namespace CV
open PySem PySem.Spec PyProof.Rows L2
open CC (W Ob S Hh Lo R RS rd wr al nxt)
section
variable {C : Ct}
end
end CV
set_option Elab.async false
set_option linter.all false
set_option maxRecDepth 100000
namespace CV
open PySem PySem.Spec PyProof.Rows L2
open CC (W Ob S Hh Lo R RS rd wr al nxt ItD)
section
variable {c : Cf} {E B : Pr} {u : U} {w : W} {F : List Nat}
end
end CV
set_option Elab.async false
set_option linter.all false
set_option maxRecDepth 100000
set_option maxHeartbeats 2000000
namespace CV
open PySem PySem.Spec PyProof.Rows L2
open CC (W Ob S Hh Lo R RS rd wr al nxt ItD)
section
variable {C : Ct} {md : Bool} {c c1 : Cf} {E E1 K K1 B : Pr} {l : Lo} {vl : VL} {s : S} {Fs : Nat → List Nat}
structure AcD (C : Ct) (s : S) (E K : Pr) (Fs : Nat → List Nat) (n : Nat) (kvs : List (Key × U)) (kws : List (Key × W)) : Prop where
  at_ : rd C.p s n = some (.dct kws)
  ks : kvs.map (·.1) = kws.map (·.1)
  ds : ∃ T, D0s (rd C.p s) (kvs.map (·.2)) (kws.map (·.2)) [] T ∧ ∀ a ∈ T, ¬ E a
  en : E n
  nk : ¬ K n
  fr : ∀ i, n ∉ Fs i
end
end CV
set_option Elab.async false
set_option linter.all false
set_option maxRecDepth 100000
namespace CV
open PySem PySem.Spec PyProof.Rows L2
open CC (W Ob S Hh Lo R RS rd wr al nxt)
end CV
set_option Elab.async false
set_option linter.all false
set_option maxRecDepth 100000
namespace CV
open PySem PySem.Spec PyProof.Rows L2
open CC (W Ob S Hh Lo R RS rd wr al nxt mnI mxI)
end CV
set_option Elab.async false
set_option linter.all false
set_option maxRecDepth 100000
namespace CC
open PySem PySem.Spec PyProof.Rows L2
end CC
namespace CV
open PySem PySem.Spec PyProof.Rows L2
open CC (W Ob S Hh Lo R RS rd wr al nxt)
section
variable {C : Ct}
end
end CV
set_option Elab.async false
set_option linter.all false
set_option maxRecDepth 100000
namespace CV
open PySem PySem.Spec PyProof.Rows L2
open CC (W Ob S Hh Lo R RS rd wr al nxt evs evk)
section
variable {C : Ct} {md : Bool} {c c1 : Cf} {E E1 K K1 B : Pr} {l : Lo} {vl : VL} {s : S} {Fs : Nat → List Nat}
end
end CV
set_option Elab.async false
set_option linter.all false
set_option maxRecDepth 100000
namespace CV
open PySem PySem.Spec PyProof.Rows L2
open CC (W Ob S Hh Lo R RS rd wr al nxt)
def uIB : U → Option Int
  | .int i => some i
  | .bl b => some (b2i b)
  | _ => none
section
variable {c : Cf} {E B : Pr} {u : U} {w : W} {F : List Nat}
theorem uIB_ok (d : D c E B u w F) {i : Int} (h : uIB u = some i) : CC.wIB w = some i := by
  cases u with
  | int j => obtain rfl := d.is_int; exact h
  | bl b => obtain rfl := d.is_bl; exact h
  | _ => cases h
end
def gLtB (x y : U) : Option U := match uIB x, uIB y with
  | some i, some j => some (.bl (decide (i < j)))
  | _, _ => none
theorem x_gLtB : Op2 CC.gLtB gLtB := by
  refine op2_sc fun {p s E B x y u wx wy Fx Fy} dx dy e => ?_
  unfold gLtB at e
  unfold CC.gLtB
  cases e1 : uIB x with
  | none => rw [e1] at e; cases e
  | some i => cases e2 : uIB y with
    | none => rw [e1, e2] at e; cases e
    | some j =>
      rw [e1, e2] at e
      rw [uIB_ok dx e1, uIB_ok dy e2]
      cases e
      exact ⟨_, rfl, rfl⟩
def gBI (x : U) : Option U := match uIB x with
  | some i => some (.int i)
  | none => none
theorem x_gBI : Op1 CC.gBI gBI := by
  refine op1_sc fun {p s E B x u wx Fx} dx e => ?_
  unfold gBI at e
  unfold CC.gBI
  cases e1 : uIB x with
  | none => rw [e1] at e; cases e
  | some i =>
    rw [e1] at e
    rw [uIB_ok dx e1]
    cases e
    exact ⟨_, rfl, rfl⟩
def gStB (i k : Nat) : U → VL → Option VL := fun u v => match v[i]? with
  | some (some (.lst .o _)) => gSt i (eUn gBI (eVarN k)) u v
  | _ => none
theorem sim_subB {C : Ct} {i k : Nat} : SimG C (gStB i k) (CC.gSubT CC.gSetXB C.p (CC.eVar i) (CC.eVar k)) := fun s l vl E K B Fs u w F r d f => by
  have q := sim_sub (i := i) (sim_un x_gBI (sim_varN (C := C) (md := true) k)) s l vl E K B Fs u w F r d f
  unfold gStB
  cases e : vl[i]? with
  | none => trivial
  | some o0 => cases o0 with
    | none => trivial
    | some u0 => cases u0 with
      | lst z us => cases z with
        | o =>
          dsimp only
          obtain ⟨w0, hw, d0⟩ := r.has i _ e
          obtain ⟨n, ws, F0, T0, rfl, hc, _⟩ := d0.lst
          rw [CC.gSubTB (p := C.p) (mo := CC.eVar i) (mi := CC.eVar k) (w := w) (l := l) (s := s) (fun o s1 j s2 h1 h2 => by
            rw [var_ok hw] at h1
            cases h1
            unfold CC.eVar at h2
            split at h2
            · cases h2
              unfold CC.isL
              dsimp only
              rw [hc]
            · cases h2)]
          exact q
        | _ => trivial
      | _ => trivial
def gMul1 (x y : U) : Option U := match x, y with
  | .tup a, .int k => if k = 1 then some (.tup a) else gMul (.tup a) (.int k)
  | _, _ => none
theorem x_gMul1 : Op2 CC.gMul1 gMul1 := fun {p s E B x y u wx wy Fx Fy} dx dy ev nd e => by
  have gen : gMul x y = some u → CC.gMul1 p wx wy s = CC.gMul p wx wy s → ∃ w s' F, CC.gMul1 p wx wy s = some (w, s') ∧ Ext (rd p s) (rd p s') ∧ (∀ n, rd p s' n = none → rd p s n = none) ∧ D (rd p s') E B u w F ∧ F.Nodup ∧ ∀ a ∈ F, a ∈ Fx ++ Fy ∨ rd p s a = none := fun e q => by
    rw [q]
    have := x_gMul dx dy ev nd e
    simpa using this
  unfold gMul1 at e
  split at e
  · rename_i a k
    obtain ⟨rfl, ws1, rfl, d1⟩ := dx.is_tup
    obtain rfl := dy.is_int
    split at e
    · rename_i h
      subst h
      cases e
      exact ⟨.tup ws1, s, [], rfl, .rfl', fun _ h => h, dx, List.nodup_nil, no⟩
    · rename_i h
      have := gen e (by unfold CC.gMul1; dsimp only; rw [if_neg h])
      simpa using this
  · cases e
end CV
set_option Elab.async false
set_option linter.all false
set_option maxRecDepth 100000
set_option maxHeartbeats 4000000
namespace K35
namespace V
open PySem PySem.Spec PyProof.Rows L2 CV
def v__law_is_half_b1 : VL → RSU :=
    (sSeq (sAsg (gNf 2) (vB (eBin gIx (eVarB 0) (eVarB 1))))
    (sIf (tB (tVal (eBin gIsN (eVarB 2) (eC .non)))) (sSeq (sIf (tB (tOrT (tNotT (tVal (eIsi (CC.qInt []) (eVarB 2)))) (tOrT (tVal (eIsi (CC.qBool []) (eVarB 2))) (tNotT (tVal (eChain gLe gLtB (eC (.int 0)) (eVarB 2) (eB fLen (aCons (eVarB 0) aNil)))))))) (sRet (eC (.bl false))) sNx)
    (sSeq (sIf (tB (tOrT (tVal (eBin gEq (eVarB 2) (eVarB 1))) (tVal (eBin gNe (eBin gIx (eVarB 0) (eVarB 2)) (eVarB 1))))) (sRet (eC (.bl false))) sNx)
    (sSeq (sAsg (gNf 3) (vB (eSl (eVarB 0) (oSo (eBin gAdd (eB fMin2 (aCons (eVarB 1) (aCons (eVarB 2) aNil))) (eC (.int 1)))) (oSo (eB fMax2 (aCons (eVarB 1) (aCons (eVarB 2) aNil)))))))
    (sSeq (sIf (tB (tVal (eBin gInA (eC .non) (eVarB 3)))) (sRet (eC (.bl false))) sNx)
    (sSeq (sPar2 (gNf 4) (gNf 5) (aCons (vB (eB fMin2 (aCons (eVarB 1) (aCons (eVarB 2) aNil)))) (aCons (vB (eB fMax2 (aCons (eVarB 1) (aCons (eVarB 2) aNil)))) aNil)))
    (sIf (tB (tVal (eBin gNe (eLc (CC.CTg.nm 6) (iSeq (eVarB 3)) (tAndT (tVal (eIsi (CC.qInt []) (eVarB 6))) (tNotT (tVal (eChain gLtB gLtB (eVarB 4) (eVarB 6) (eVarB 5))))) (eVarB 6)) (eLst aNil)))) (sRet (eC (.bl false))) sNx)))))) sNx))
def v__law_is_half : VL → RSU :=
    (sSeq (sIf (tB (tOrT (tNotT (tVal (eIsi (CC.qTup []) (eVarB 0)))) (tNotT (tVal (eChain gLe gLe (eC (.int 1)) (eB fLen (aCons (eVarB 0) aNil)) (eC (.int 16))))))) (sRet (eC (.bl false))) sNx)
    (sSeq (sFor (gNf 1) (iRange1 (vB (eB fLen (aCons (eVarB 0) aNil)))) v__law_is_half_b1)
    (sRet (eC (.bl true)))))
def u__law_is_half : List U → RF := fnV 1 7 v__law_is_half
theorem z__law_is_half : SimF none u__law_is_half m__law_is_half := sim_fn fun C hm => show SimS C v__law_is_half (b__law_is_half C.p) from
    (sim_seq (sim_sif (sim_tB (sim_orT (sim_notT (sim_val (sim_isi (sim_varB 0)))) (sim_notT (sim_val (sim_chain x_gLe x_gLe sim_int (sim_b x_fLen (sim_cons (sim_varB 0) sim_nil)) sim_int))))) (sim_ret sim_bl) sim_nx)
    (sim_seq (sim_for (sim_nf 1 (.inl hm)) (rr_it (sim_rr1 (sim_vB (sim_b x_fLen (sim_cons (sim_varB 0) sim_nil))))) (sim_seq (sim_asg (sim_nf 2 (.inl hm)) (sim_vB (sim_bin x_gIx (sim_varB 0) (sim_varB 1))))
    (sim_sif (sim_tB (sim_val (sim_bin x_gIsN (sim_varB 2) sim_non))) (sim_seq (sim_sif (sim_tB (sim_orT (sim_notT (sim_val (sim_isi (sim_varB 2)))) (sim_orT (sim_val (sim_isi (sim_varB 2))) (sim_notT (sim_val (sim_chain x_gLe x_gLtB sim_int (sim_varB 2) (sim_b x_fLen (sim_cons (sim_varB 0) sim_nil)))))))) (sim_ret sim_bl) sim_nx)
    (sim_seq (sim_sif (sim_tB (sim_orT (sim_val (sim_bin x_gEq (sim_varB 2) (sim_varB 1))) (sim_val (sim_bin x_gNe (sim_bin x_gIx (sim_varB 0) (sim_varB 2)) (sim_varB 1))))) (sim_ret sim_bl) sim_nx)
    (sim_seq (sim_asg (sim_nf 3 (.inl hm)) (sim_vB (sim_sl (sim_varB 0) (sim_oSo (sim_bin x_gAdd (sim_b x_fMin2 (sim_cons (sim_varB 1) (sim_cons (sim_varB 2) sim_nil))) sim_int)) (sim_oSo (sim_b x_fMax2 (sim_cons (sim_varB 1) (sim_cons (sim_varB 2) sim_nil)))))))
    (sim_seq (sim_sif (sim_tB (sim_val (sim_bin x_gInA sim_non (sim_varB 3)))) (sim_ret sim_bl) sim_nx)
    (sim_seq (sim_part2 (sim_nf 4 (.inl hm)) (sim_nf 5 (.inl hm)) (sim_cons (sim_vB (sim_b x_fMin2 (sim_cons (sim_varB 1) (sim_cons (sim_varB 2) sim_nil)))) (sim_cons (sim_vB (sim_b x_fMax2 (sim_cons (sim_varB 1) (sim_cons (sim_varB 2) sim_nil)))) sim_nil)))
    (sim_sif (sim_tB (sim_val (sim_bin x_gNe (sim_lc (.inl hm) (sim_seqI (sim_varB 3)) (sim_andT (sim_val (sim_isi (sim_varB 6))) (sim_notT (sim_val (sim_chain x_gLtB x_gLtB (sim_varB 4) (sim_varB 6) (sim_varB 5))))) (sim_varB 6)) (sim_lst sim_nil)))) (sim_ret sim_bl) sim_nx)))))) sim_nx)))
    (sim_ret sim_bl)))
def v__law_take : VL → RSU :=
    (sSeq (sIf (tB (tVal (eBin gGt (eBin gIx (eVarB 0) (eC (.int 0))) (eC (.int 0))))) (sSeq (sAsg (gNm 2) (vB (eBin gMod (eBin gIx (eVarB 0) (eC (.int 0))) (eVarB 1))))
    (sSeq (sAsg (gFz (gSt 0 (eC (.int 0)))) (vB (eBin gFdiv (eBin gIx (eVarB 0) (eC (.int 0))) (eVarB 1))))
    (sRet (eMov 2)))) sNx)
    (sSeq (sAsg (gFz (gSt 0 (eC (.int 1)))) (vB (eBin gMod (eBin gAdd (eBin gMul (eBin gIx (eVarB 0) (eC (.int 1))) (eC (.int 48271))) (eC (.int 12345))) (eC (.int 2147483647)))))
    (sRet (vB (eBin gMod (eBin gFdiv (eBin gMod (eBin gMul (eBin gIx (eVarB 0) (eC (.int 1))) (eBin gIx (eVarB 0) (eC (.int 1)))) (eC (.int 2147483629))) (eC (.int 64))) (eVarB 1))))))
def u__law_take : List U → RF := fnM 0 2 3 v__law_take
theorem z__law_take : SimF (some 0) u__law_take m__law_take := sim_fnM (by decide) fun C hm => show SimS C v__law_take (b__law_take C.p) from
    (sim_seq (sim_sif (sim_tB (sim_val (sim_bin x_gGt (sim_bin x_gIx (sim_varB 0) sim_int) sim_int))) (sim_seq (sim_asg (sim_nm 2 (.inr (show 2 ≠ C.mi by rw [hm]; decide))) (sim_vB (sim_bin x_gMod (sim_bin x_gIx (sim_varB 0) sim_int) (sim_varB 1))))
    (sim_seq (sim_asg (sim_fz (sim_sub (i := 0) sim_int)) (sim_vB (sim_bin x_gFdiv (sim_bin x_gIx (sim_varB 0) sim_int) (sim_varB 1))))
    (sim_ret (sim_mov 2)))) sim_nx)
    (sim_seq (sim_asg (sim_fz (sim_sub (i := 0) sim_int)) (sim_vB (sim_bin x_gMod (sim_bin x_gAdd (sim_bin x_gMul (sim_bin x_gIx (sim_varB 0) sim_int) sim_int) sim_int) sim_int)))
    (sim_ret (sim_vB (sim_bin x_gMod (sim_bin x_gFdiv (sim_bin x_gMod (sim_bin x_gMul (sim_bin x_gIx (sim_varB 0) sim_int) (sim_bin x_gIx (sim_varB 0) sim_int)) sim_int) sim_int) (sim_varB 1))))))
def v__law_modified_b1 : VL → RSU :=
    (sAsg (gTupT 2 (gsCons (gFz (gStB 6 10)) (gsCons (gFz (gStB 6 11)) gsNil))) (vB (eTup (aCons (eVarB 11) (aCons (eVarB 10) aNil)))))
def v__law_modified : VL → RSU :=
    (sSeq (sPar2 (gNf 2) (gNf 3) (aCons (eCallM 0 u__law_take [] (aCons (vB (eB fLen (aCons (eVarB 1) aNil))) aNil)) (aCons (eCallM 0 u__law_take [] (aCons (vB (eB fLen (aCons (eVarB 1) aNil))) aNil)) aNil)))
    (sSeq (sAsg (gNf 4) (eCallM 0 u__law_take [] (aCons (eC (.int 9)) aNil)))
    (sSeq (sIf (tB (tVal (eBin gEq (eVarB 4) (eC (.int 0))))) (sSeq (sAsg (gNf 5) (eBin gIx (vB (eLst (aCons (eB fLen (aCons (eVarB 1) aNil)) (aCons (eUn gNeg (eC (.int 1))) (aCons (eC (.bl true)) (aCons (eC (.bl false)) (aCons (eC (.str "0")) (aCons (eTup (aCons (eC (.int 0)) aNil)) (aCons (eBin gPow (eC (.int 10)) (eC (.int 20))) aNil))))))))) (eCallM 0 u__law_take [] (aCons (eC (.int 7)) aNil))))
    (sRet (vB (eBin gAdd (eBin gAdd (eSl (eVarB 1) oNo (oSo (eVarB 2))) (eTup (aCons (eVarB 5) aNil))) (eSl (eVarB 1) (oSo (eBin gAdd (eVarB 2) (eC (.int 1)))) oNo))))) sNx)
    (sSeq (sIf (tB (tVal (eBin gEq (eVarB 4) (eC (.int 1))))) (sRet (vB (eBin gAdd (eBin gAdd (eSl (eVarB 1) oNo (oSo (eVarB 2))) (eTup (aCons (eC .non) aNil))) (eSl (eVarB 1) (oSo (eBin gAdd (eVarB 2) (eC (.int 1)))) oNo)))) sNx)
    (sSeq (sIf (tB (tVal (eBin gEq (eVarB 4) (eC (.int 2))))) (sRet (vB (eBin gAdd (eBin gAdd (eSl (eVarB 1) oNo (oSo (eVarB 2))) (eTup (aCons (eVarB 3) aNil))) (eSl (eVarB 1) (oSo (eBin gAdd (eVarB 2) (eC (.int 1)))) oNo)))) sNx)
    (sSeq (sIf (tB (tVal (eBin gEq (eVarB 4) (eC (.int 3))))) (sRet (vB (eBin gAdd (eSl (eVarB 1) oNo (oSo (eVarB 2))) (eSl (eVarB 1) (oSo (eBin gAdd (eVarB 2) (eC (.int 1)))) oNo)))) sNx)
    (sSeq (sIf (tB (tVal (eBin gEq (eVarB 4) (eC (.int 4))))) (sRet (eBin gAdd (eBin gAdd (vB (eSl (eVarB 1) oNo (oSo (eVarB 2)))) (eTup (aCons (eBin gIx (vB (eLst (aCons (eC .non) (aCons (eVarB 2) aNil)))) (eCallM 0 u__law_take [] (aCons (eC (.int 2)) aNil))) aNil))) (vB (eSl (eVarB 1) (oSo (eVarB 2)) oNo)))) sNx)
    (sSeq (sAsg (gNm 6) (vB (eB fList (aCons (eVarB 1) aNil))))
    (sSeq (sIf (tB (tVal (eBin gEq (eVarB 4) (eC (.int 5))))) (sSeq (sAsg (gTupT 2 (gsCons (gFz (gStB 6 2)) (gsCons (gFz (gStB 6 3)) gsNil))) (vB (eTup (aCons (eVarB 3) (aCons (eVarB 2) aNil)))))
    (sRet (vB (eB fTuple (aCons (eVarB 6) aNil))))) sNx)
    (sSeq (sIf (tB (tVal (eBin gEq (eVarB 4) (eC (.int 6))))) (sSeq (sAsg (gTupT 2 (gsCons (gFz (gStB 6 2)) (gsCons (gFz (gStB 6 3)) gsNil))) (vB (eTup (aCons (eBin gIx (eVarB 1) (eVarB 3)) (aCons (eBin gIx (eVarB 1) (eVarB 2)) aNil)))))
    (sRet (vB (eB fTuple (aCons (eVarB 6) aNil))))) sNx)
    (sSeq (sAsg (gNf 7) (vB (eLc (CC.CTg.pr 12 13) (iEnm (eVarB 1)) (tAndT (tVal (eIsi (CC.qInt []) (eVarB 13))) (tVal (eChain gLtB gLtB (eVarB 12) (eVarB 13) (eB fLen (aCons (eVarB 1) aNil))))) (eTup (aCons (eVarB 12) (aCons (eVarB 13) aNil))))))
    (sSeq (sIf (tB (tVal (eBin gEq (eVarB 7) (eLst aNil)))) (sRet (vB (eBin gAdd (eVarB 1) (eTup (aCons (eC .non) aNil))))) sNx)
    (sSeq (sPar2 (gNf 8) (gNf 9) (aCons (eBin gIx (eVarN 7) (eCallM 0 u__law_take [] (aCons (vB (eB fLen (aCons (eVarB 7) aNil))) aNil))) (aCons (eBin gIx (eVarN 7) (eCallM 0 u__law_take [] (aCons (vB (eB fLen (aCons (eVarB 7) aNil))) aNil))) aNil)))
    (sSeq (sFor (gTupT 2 (gsCons (gNf 10) (gsCons (gNf 11) gsNil))) (iSeq (vB (eLst (aCons (eTup (aCons (eBin gIx (eVarB 8) (eC (.int 0))) (aCons (eBin gIx (eVarB 9) (eC (.int 0))) aNil))) (aCons (eTup (aCons (eBin gIx (eVarB 8) (eC (.int 1))) (aCons (eBin gIx (eVarB 9) (eC (.int 1))) aNil))) aNil))))) v__law_modified_b1)
    (sRet (vB (eB fTuple (aCons (eVarB 6) aNil))))))))))))))))))
def u__law_modified : List U → RF := fnM 0 2 14 v__law_modified
theorem z__law_modified : SimF (some 0) u__law_modified m__law_modified := sim_fnM (by decide) fun C hm => show SimS C v__law_modified (b__law_modified C.p) from
    (sim_seq (sim_par2 (sim_nf 2 (.inr (show 2 ≠ C.mi by rw [hm]; decide))) (sim_nf 3 (.inr (show 3 ≠ C.mi by rw [hm]; decide))) (sim_cons (sim_callM (i := 0) z__law_take dsc_nil (sim_cons (sim_vB (sim_b x_fLen (sim_cons (sim_varB 1) sim_nil))) sim_nil)) (sim_cons (sim_callM (i := 0) z__law_take dsc_nil (sim_cons (sim_vB (sim_b x_fLen (sim_cons (sim_varB 1) sim_nil))) sim_nil)) sim_nil)))
    (sim_seq (sim_asg (sim_nf 4 (.inr (show 4 ≠ C.mi by rw [hm]; decide))) (sim_callM (i := 0) z__law_take dsc_nil (sim_cons sim_int sim_nil)))
    (sim_seq (sim_sif (sim_tB (sim_val (sim_bin x_gEq (sim_varB 4) sim_int))) (sim_seq (sim_asg (sim_nf 5 (.inr (show 5 ≠ C.mi by rw [hm]; decide))) (sim_bin x_gIx (sim_vB (sim_lst (sim_cons (sim_b x_fLen (sim_cons (sim_varB 1) sim_nil)) (sim_cons (sim_un x_gNeg sim_int) (sim_cons sim_bl (sim_cons sim_bl (sim_cons sim_str (sim_cons (sim_tup (sim_cons sim_int sim_nil)) (sim_cons (sim_bin x_gPow sim_int sim_int) sim_nil))))))))) (sim_callM (i := 0) z__law_take dsc_nil (sim_cons sim_int sim_nil))))
    (sim_ret (sim_vB (sim_bin x_gAdd (sim_bin x_gAdd (sim_sl (sim_varB 1) sim_oNo (sim_oSo (sim_varB 2))) (sim_tup (sim_cons (sim_varB 5) sim_nil))) (sim_sl (sim_varB 1) (sim_oSo (sim_bin x_gAdd (sim_varB 2) sim_int)) sim_oNo))))) sim_nx)
    (sim_seq (sim_sif (sim_tB (sim_val (sim_bin x_gEq (sim_varB 4) sim_int))) (sim_ret (sim_vB (sim_bin x_gAdd (sim_bin x_gAdd (sim_sl (sim_varB 1) sim_oNo (sim_oSo (sim_varB 2))) (sim_tup (sim_cons sim_non sim_nil))) (sim_sl (sim_varB 1) (sim_oSo (sim_bin x_gAdd (sim_varB 2) sim_int)) sim_oNo)))) sim_nx)
    (sim_seq (sim_sif (sim_tB (sim_val (sim_bin x_gEq (sim_varB 4) sim_int))) (sim_ret (sim_vB (sim_bin x_gAdd (sim_bin x_gAdd (sim_sl (sim_varB 1) sim_oNo (sim_oSo (sim_varB 2))) (sim_tup (sim_cons (sim_varB 3) sim_nil))) (sim_sl (sim_varB 1) (sim_oSo (sim_bin x_gAdd (sim_varB 2) sim_int)) sim_oNo)))) sim_nx)
    (sim_seq (sim_sif (sim_tB (sim_val (sim_bin x_gEq (sim_varB 4) sim_int))) (sim_ret (sim_vB (sim_bin x_gAdd (sim_sl (sim_varB 1) sim_oNo (sim_oSo (sim_varB 2))) (sim_sl (sim_varB 1) (sim_oSo (sim_bin x_gAdd (sim_varB 2) sim_int)) sim_oNo)))) sim_nx)
    (sim_seq (sim_sif (sim_tB (sim_val (sim_bin x_gEq (sim_varB 4) sim_int))) (sim_ret (sim_bin x_gAdd (sim_bin x_gAdd (sim_vB (sim_sl (sim_varB 1) sim_oNo (sim_oSo (sim_varB 2)))) (sim_tup (sim_cons (sim_bin x_gIx (sim_vB (sim_lst (sim_cons sim_non (sim_cons (sim_varB 2) sim_nil)))) (sim_callM (i := 0) z__law_take dsc_nil (sim_cons sim_int sim_nil))) sim_nil))) (sim_vB (sim_sl (sim_varB 1) (sim_oSo (sim_varB 2)) sim_oNo)))) sim_nx)
    (sim_seq (sim_asg (sim_nm 6 (.inr (show 6 ≠ C.mi by rw [hm]; decide))) (sim_vB (sim_b x_fList (sim_cons (sim_varB 1) sim_nil))))
    (sim_seq (sim_sif (sim_tB (sim_val (sim_bin x_gEq (sim_varB 4) sim_int))) (sim_seq (sim_asg (sim_gtup (sim_gcons (sim_fz (sim_subB (i := 6) (k := 2))) (sim_gcons (sim_fz (sim_subB (i := 6) (k := 3))) sim_gnil))) (sim_vB (sim_tup (sim_cons (sim_varB 3) (sim_cons (sim_varB 2) sim_nil)))))
    (sim_ret (sim_vB (sim_b x_fTuple (sim_cons (sim_varB 6) sim_nil))))) sim_nx)
    (sim_seq (sim_sif (sim_tB (sim_val (sim_bin x_gEq (sim_varB 4) sim_int))) (sim_seq (sim_asg (sim_gtup (sim_gcons (sim_fz (sim_subB (i := 6) (k := 2))) (sim_gcons (sim_fz (sim_subB (i := 6) (k := 3))) sim_gnil))) (sim_vB (sim_tup (sim_cons (sim_bin x_gIx (sim_varB 1) (sim_varB 3)) (sim_cons (sim_bin x_gIx (sim_varB 1) (sim_varB 2)) sim_nil)))))
    (sim_ret (sim_vB (sim_b x_fTuple (sim_cons (sim_varB 6) sim_nil))))) sim_nx)
    (sim_seq (sim_asg (sim_nf 7 (.inr (show 7 ≠ C.mi by rw [hm]; decide))) (sim_vB (sim_lc (.inr (show C.mi ∉ (CC.CTg.pr 12 13).slots by rw [hm]; decide)) (sim_enm (sim_varB 1)) (sim_andT (sim_val (sim_isi (sim_varB 13))) (sim_val (sim_chain x_gLtB x_gLtB (sim_varB 12) (sim_varB 13) (sim_b x_fLen (sim_cons (sim_varB 1) sim_nil))))) (sim_tup (sim_cons (sim_varB 12) (sim_cons (sim_varB 13) sim_nil))))))
    (sim_seq (sim_sif (sim_tB (sim_val (sim_bin x_gEq (sim_varB 7) (sim_lst sim_nil)))) (sim_ret (sim_vB (sim_bin x_gAdd (sim_varB 1) (sim_tup (sim_cons sim_non sim_nil))))) sim_nx)
    (sim_seq (sim_par2 (sim_nf 8 (.inr (show 8 ≠ C.mi by rw [hm]; decide))) (sim_nf 9 (.inr (show 9 ≠ C.mi by rw [hm]; decide))) (sim_cons (sim_bin x_gIx (sim_varN 7) (sim_callM (i := 0) z__law_take dsc_nil (sim_cons (sim_vB (sim_b x_fLen (sim_cons (sim_varB 7) sim_nil))) sim_nil))) (sim_cons (sim_bin x_gIx (sim_varN 7) (sim_callM (i := 0) z__law_take dsc_nil (sim_cons (sim_vB (sim_b x_fLen (sim_cons (sim_varB 7) sim_nil))) sim_nil))) sim_nil)))
    (sim_seq (sim_for (sim_gtup (sim_gcons (sim_nf 10 (.inr (show 10 ≠ C.mi by rw [hm]; decide))) (sim_gcons (sim_nf 11 (.inr (show 11 ≠ C.mi by rw [hm]; decide))) sim_gnil))) (sim_seqI (sim_vB (sim_lst (sim_cons (sim_tup (sim_cons (sim_bin x_gIx (sim_varB 8) sim_int) (sim_cons (sim_bin x_gIx (sim_varB 9) sim_int) sim_nil))) (sim_cons (sim_tup (sim_cons (sim_bin x_gIx (sim_varB 8) sim_int) (sim_cons (sim_bin x_gIx (sim_varB 9) sim_int) sim_nil))) sim_nil))))) (sim_asg (sim_gtup (sim_gcons (sim_fz (sim_subB (i := 6) (k := 10))) (sim_gcons (sim_fz (sim_subB (i := 6) (k := 11))) sim_gnil))) (sim_vB (sim_tup (sim_cons (sim_varB 11) (sim_cons (sim_varB 10) sim_nil))))))
    (sim_ret (sim_vB (sim_b x_fTuple (sim_cons (sim_varB 6) sim_nil))))))))))))))))))
def v__law_pool : VL → RSU :=
    (sSeq (sAsg (gNf 2) (eC (.int 0)))
    (sSeq (sIf (tB (tVal (eBin gLt (eVarB 1) (eB fLen (aCons (eVarB 0) aNil))))) (sAsg (gNf 2) (vB (eB fAbs (aCons (eBin gIx (eVarB 0) (eVarB 1)) aNil)))) sNx)
    (sSeq (sAsg (gNf 3) (vB (eBin gMod (eBin gMul (eBin gAdd (eBin gAdd (eBin gAdd (eBin gMod (eVarB 2) (eC (.int 2147483629))) (eBin gMul (eBin gMul (eC (.int 7919)) (eVarB 1)) (eVarB 1))) (eBin gMul (eC (.int 31)) (eVarB 1))) (eC (.int 17))) (eC (.int 48271))) (eC (.int 2147483647)))))
    (sRet (vB (eLst (aCons (eBin gMul (eVarB 2) (eB fInt (aCons (eBin gGe (eVarB 2) (eBin gPow (eC (.int 10)) (eC (.int 18)))) aNil))) (aCons (eBin gMod (eBin gMul (eVarB 3) (eVarB 3)) (eC (.int 2147483629))) aNil))))))))
def u__law_pool : List U → RF := fnV 2 4 v__law_pool
theorem z__law_pool : SimF none u__law_pool m__law_pool := sim_fn fun C hm => show SimS C v__law_pool (b__law_pool C.p) from
    (sim_seq (sim_asg (sim_nf 2 (.inl hm)) sim_int)
    (sim_seq (sim_sif (sim_tB (sim_val (sim_bin x_gLt (sim_varB 1) (sim_b x_fLen (sim_cons (sim_varB 0) sim_nil))))) (sim_asg (sim_nf 2 (.inl hm)) (sim_vB (sim_b x_fAbs (sim_cons (sim_bin x_gIx (sim_varB 0) (sim_varB 1)) sim_nil)))) sim_nx)
    (sim_seq (sim_asg (sim_nf 3 (.inl hm)) (sim_vB (sim_bin x_gMod (sim_bin x_gMul (sim_bin x_gAdd (sim_bin x_gAdd (sim_bin x_gAdd (sim_bin x_gMod (sim_varB 2) sim_int) (sim_bin x_gMul (sim_bin x_gMul sim_int (sim_varB 1)) (sim_varB 1))) (sim_bin x_gMul sim_int (sim_varB 1))) sim_int) sim_int) sim_int)))
    (sim_ret (sim_vB (sim_lst (sim_cons (sim_bin x_gMul (sim_varB 2) (sim_b x_fInt (sim_cons (sim_bin x_gGe (sim_varB 2) (sim_bin x_gPow sim_int sim_int)) sim_nil))) (sim_cons (sim_bin x_gMod (sim_bin x_gMul (sim_varB 3) (sim_varB 3)) sim_int) sim_nil))))))))
def v__law_random_half_b1 : VL → RSU :=
    (sSeq (sAsg (gNf 5) (vB (eBin gGe (eB fLen (aCons (eVarB 3) aNil)) (eBin gSub (eBin gSub (eVarB 1) (eVarB 4)) (eC (.int 1))))))
    (sIf (tAndT (tB (tVal (eBin gNe (eVarB 3) (eLst aNil)))) (tOrT (tB (tVal (eVarB 5))) (tVal (eBin gEq (eCallM 0 u__law_take [] (aCons (eC (.int 2)) aNil)) (eC (.int 0)))))) (sSeq (sAsg (gNf 6) (eMut 3 mPop aNil))
    (sAsg (gTupT 2 (gsCons (gFz (gSt 2 (eVarN 4))) (gsCons (gFz (gSt 2 (eVarN 6))) gsNil))) (vB (eTup (aCons (eVarB 6) (aCons (eVarB 4) aNil)))))) (sIf (tAndT (tB (tVal (eBin gLt (eB fLen (aCons (eVarB 3) aNil)) (eBin gSub (eBin gSub (eVarB 1) (eVarB 4)) (eC (.int 1)))))) (tOrT (tB (tVal (eBin gNe (eVarB 3) (eLst aNil)))) (tVal (eBin gGt (eCallM 0 u__law_take [] (aCons (eC (.int 3)) aNil)) (eC (.int 0)))))) (sEx (eMut 3 mAppend (aCons (eVarN 4) aNil))) sNx)))
def v__law_random_half : VL → RSU :=
    (sSeq (sPar2 (gNm 2) (gNm 3) (aCons (vB (eBin gMul (eLst (aCons (eC .non) aNil)) (eVarB 1))) (aCons (vB (eLst aNil)) aNil)))
    (sSeq (sFor (gNf 4) (iRange1 (eVarN 1)) v__law_random_half_b1)
    (sRet (vB (eB fTuple (aCons (eVarB 2) aNil))))))
def u__law_random_half : List U → RF := fnM 0 2 7 v__law_random_half
theorem z__law_random_half : SimF (some 0) u__law_random_half m__law_random_half := sim_fnM (by decide) fun C hm => show SimS C v__law_random_half (b__law_random_half C.p) from
    (sim_seq (sim_par2 (sim_nm 2 (.inr (show 2 ≠ C.mi by rw [hm]; decide))) (sim_nm 3 (.inr (show 3 ≠ C.mi by rw [hm]; decide))) (sim_cons (sim_vB (sim_bin x_gMul (sim_lst (sim_cons sim_non sim_nil)) (sim_varB 1))) (sim_cons (sim_vB (sim_lst sim_nil)) sim_nil)))
    (sim_seq (sim_for (sim_nf 4 (.inr (show 4 ≠ C.mi by rw [hm]; decide))) (rr_it (sim_rr1 (sim_varN 1))) (sim_seq (sim_asg (sim_nf 5 (.inr (show 5 ≠ C.mi by rw [hm]; decide))) (sim_vB (sim_bin x_gGe (sim_b x_fLen (sim_cons (sim_varB 3) sim_nil)) (sim_bin x_gSub (sim_bin x_gSub (sim_varB 1) (sim_varB 4)) sim_int))))
    (sim_sif (sim_andT (sim_tB (sim_val (sim_bin x_gNe (sim_varB 3) (sim_lst sim_nil)))) (sim_orT (sim_tB (sim_val (sim_varB 5))) (sim_val (sim_bin x_gEq (sim_callM (i := 0) z__law_take dsc_nil (sim_cons sim_int sim_nil)) sim_int)))) (sim_seq (sim_asg (sim_nf 6 (.inr (show 6 ≠ C.mi by rw [hm]; decide))) (sim_mut (i := 3) x_mPop sim_nil))
    (sim_asg (sim_gtup (sim_gcons (sim_fz (sim_sub (i := 2) (sim_varN 4))) (sim_gcons (sim_fz (sim_sub (i := 2) (sim_varN 6))) sim_gnil))) (sim_vB (sim_tup (sim_cons (sim_varB 6) (sim_cons (sim_varB 4) sim_nil)))))) (sim_sif (sim_andT (sim_tB (sim_val (sim_bin x_gLt (sim_b x_fLen (sim_cons (sim_varB 3) sim_nil)) (sim_bin x_gSub (sim_bin x_gSub (sim_varB 1) (sim_varB 4)) sim_int)))) (sim_orT (sim_tB (sim_val (sim_bin x_gNe (sim_varB 3) (sim_lst sim_nil)))) (sim_val (sim_bin x_gGt (sim_callM (i := 0) z__law_take dsc_nil (sim_cons sim_int sim_nil)) sim_int)))) (sim_ex (sim_mut (i := 3) x_mAppend (sim_cons (sim_varN 4) sim_nil))) sim_nx))))
    (sim_ret (sim_vB (sim_b x_fTuple (sim_cons (sim_varB 2) sim_nil))))))
def v_is_integer : VL → RSU :=
    (sRet (vB (eAndV (eIsi (CC.qInt []) (eVarB 0)) (eAndV (eNotV (eIsi (CC.qBool []) (eVarB 0))) (eBin gGe (eVarB 0) (eVarB 1))))))
def u_is_integer : List U → RF := fnV 2 2 v_is_integer
theorem z_is_integer : SimF none u_is_integer m_is_integer := sim_fn fun C hm => show SimS C v_is_integer (b_is_integer C.p) from
    (sim_ret (sim_vB (sim_andV (sim_isi (sim_varB 0)) (sim_andV (sim_notV (sim_isi (sim_varB 0))) (sim_bin x_gGe (sim_varB 0) (sim_varB 1))))))
def v_is_columns : VL → RSU :=
    (sRet (vB (eAndV (eCall u_is_integer [] (aCons (eVarB 0) (aCons (eC (.int 1)) aNil))) (eBin gLe (eVarB 0) (eC (.int 16))))))
def u_is_columns : List U → RF := fnV 1 1 v_is_columns
theorem z_is_columns : SimF none u_is_columns m_is_columns := sim_fn fun C hm => show SimS C v_is_columns (b_is_columns C.p) from
    (sim_ret (sim_vB (sim_andV (sim_call z_is_integer dsc_nil (sim_cons (sim_varB 0) (sim_cons sim_int sim_nil))) (sim_bin x_gLe (sim_varB 0) sim_int))))
def v_is_planar_b1 : VL → RSU :=
    (sIf (tB (tVal (eBin gIs (eVarB 3) (eC .non)))) (sIf (tB (tVal (eBin gNe (eVarB 1) (eLst aNil)))) (sRet (eC (.bl false))) sNx) (sIf (tB (tVal (eBin gGt (eVarB 3) (eVarB 2)))) (sEx (eMut 1 mAppend (aCons (eVarN 2) aNil))) (sIf (tVal (eBin gNe (eMut 1 mPop aNil) (eVarN 3))) (sRet (eC (.bl false))) sNx)))
def v_is_planar : VL → RSU :=
    (sSeq (sAsg (gNm 1) (vB (eLst aNil)))
    (sSeq (sFor (gTupT 2 (gsCons (gNf 2) (gsCons (gNf 3) gsNil))) (iEnm (eVarN 0)) v_is_planar_b1)
    (sRet (eC (.bl true)))))
def u_is_planar : List U → RF := fnV 1 4 v_is_planar
theorem z_is_planar : SimF none u_is_planar m_is_planar := sim_fn fun C hm => show SimS C v_is_planar (b_is_planar C.p) from
    (sim_seq (sim_asg (sim_nm 1 (.inl hm)) (sim_vB (sim_lst sim_nil)))
    (sim_seq (sim_for (sim_gtup (sim_gcons (sim_nf 2 (.inl hm)) (sim_gcons (sim_nf 3 (.inl hm)) sim_gnil))) (sim_enm (sim_varN 0)) (sim_sif (sim_tB (sim_val (sim_bin x_gIs (sim_varB 3) sim_non))) (sim_sif (sim_tB (sim_val (sim_bin x_gNe (sim_varB 1) (sim_lst sim_nil)))) (sim_ret sim_bl) sim_nx) (sim_sif (sim_tB (sim_val (sim_bin x_gGt (sim_varB 3) (sim_varB 2)))) (sim_ex (sim_mut (i := 1) x_mAppend (sim_cons (sim_varN 2) sim_nil))) (sim_sif (sim_val (sim_bin x_gNe (sim_mut (i := 1) x_mPop sim_nil) (sim_varN 3))) (sim_ret sim_bl) sim_nx))))
    (sim_ret sim_bl)))
def v_is_half : VL → RSU :=
    (sSeq (sIf (tB (tOrT (tNotT (tVal (eIsi (CC.qTup []) (eVarB 0)))) (tNotT (tVal (eCall u_is_columns [] (aCons (eB fLen (aCons (eVarB 0) aNil)) aNil)))))) (sRet (eC (.bl false))) sNx)
    (sSeq (sIf (tB (tNotT (tVal (eB fAll (aCons (eLc (CC.CTg.nm 1) (iSeq (eVarB 0)) tTrue (eOrV (eBin gIs (eVarB 1) (eC .non)) (eAndV (eCall u_is_integer [(.int 0)] (aCons (eVarB 1) aNil)) (eBin gLt (eVarB 1) (eB fLen (aCons (eVarB 0) aNil)))))) aNil))))) (sRet (eC (.bl false))) sNx)
    (sSeq (sIf (tB (tNotT (tVal (eB fAll (aCons (eLc (CC.CTg.pr 2 1) (iEnm (eVarB 0)) tTrue (eOrV (eBin gIs (eVarB 1) (eC .non)) (eChain gEq gNe (eBin gIx (eVarB 0) (eVarB 1)) (eVarB 2) (eVarB 1)))) aNil))))) (sRet (eC (.bl false))) sNx)
    (sRet (vB (eCall u_is_planar [] (aCons (eVarB 0) aNil)))))))
def u_is_half : List U → RF := fnV 1 3 v_is_half
theorem z_is_half : SimF none u_is_half m_is_half := sim_fn fun C hm => show SimS C v_is_half (b_is_half C.p) from
    (sim_seq (sim_sif (sim_tB (sim_orT (sim_notT (sim_val (sim_isi (sim_varB 0)))) (sim_notT (sim_val (sim_call z_is_columns dsc_nil (sim_cons (sim_b x_fLen (sim_cons (sim_varB 0) sim_nil)) sim_nil)))))) (sim_ret sim_bl) sim_nx)
    (sim_seq (sim_sif (sim_tB (sim_notT (sim_val (sim_b x_fAll (sim_cons (sim_lc (.inl hm) (sim_seqI (sim_varB 0)) sim_true (sim_orV (sim_bin x_gIs (sim_varB 1) sim_non) (sim_andV (sim_call z_is_integer (dsc_int dsc_nil) (sim_cons (sim_varB 1) sim_nil)) (sim_bin x_gLt (sim_varB 1) (sim_b x_fLen (sim_cons (sim_varB 0) sim_nil)))))) sim_nil))))) (sim_ret sim_bl) sim_nx)
    (sim_seq (sim_sif (sim_tB (sim_notT (sim_val (sim_b x_fAll (sim_cons (sim_lc (.inl hm) (sim_enm (sim_varB 0)) sim_true (sim_orV (sim_bin x_gIs (sim_varB 1) sim_non) (sim_chain x_gEq x_gNe (sim_bin x_gIx (sim_varB 0) (sim_varB 1)) (sim_varB 2) (sim_varB 1)))) sim_nil))))) (sim_ret sim_bl) sim_nx)
    (sim_ret (sim_vB (sim_call z_is_planar dsc_nil (sim_cons (sim_varB 0) sim_nil)))))))
def v_law_b1 : VL → RSU :=
    (sIf (tB (tVal (eBin gIsN (eCall u_is_half [] (aCons (eVarB 1) aNil)) (eC (.bl false))))) (sRet (eC (.bl false))) sNx)
def v_law_b3 : VL → RSU :=
    (sSeq (sAsg (gNf 6) (eCallM 3 u__law_modified [] (aCons (eVarN 4) aNil)))
    (sSeq (sAsg (gNf 6) (eIf (tB (tAndT (tVal (eBin gEq (eBin gMod (eVarB 5) (eC (.int 3))) (eC (.int 2)))) (tVal (eBin gNe (eVarB 6) (eTup aNil))))) (eCallM 3 u__law_modified [] (aCons (eVarN 6) aNil)) (eVarN 6)))
    (sSeq (sAsg (gNf 7) (vB (eB fRepr (aCons (eVarB 6) aNil))))
    (sIf (tB (tOrT (tVal (eBin gNe (eB fRepr (aCons (eCall u_is_half [] (aCons (eVarB 6) aNil)) aNil)) (eB fRepr (aCons (eCall u__law_is_half [] (aCons (eVarB 6) aNil)) aNil)))) (tVal (eBin gNe (eB fRepr (aCons (eVarB 6) aNil)) (eVarB 7))))) (sRet (eC (.bl false))) sNx))))
def v_law_b2 : VL → RSU :=
    (sSeq (sAsg (gNm 3) (vB (eCall u__law_pool [] (aCons (eVarB 0) (aCons (eVarB 2) aNil)))))
    (sSeq (sAsg (gNf 4) (eCallM 3 u__law_random_half [] (aCons (eBin gAdd (eC (.int 1)) (eCallM 3 u__law_take [] (aCons (eC (.int 16)) aNil))) aNil)))
    (sSeq (sIf (tB (tOrT (tVal (eBin gIsN (eCall u_is_half [] (aCons (eVarB 4) aNil)) (eC (.bl true)))) (tVal (eBin gIsN (eCall u_is_half [] (aCons (eB fList (aCons (eVarB 4) aNil)) aNil)) (eC (.bl false)))))) (sRet (eC (.bl false))) sNx)
    (sFor (gNf 5) (iRange1 (eC (.int 20))) v_law_b3))))
def v_law : VL → RSU :=
    (sSeq (sIf (tB (tVal (eBin gNe (eLc (CC.CTg.nm 8) (iSeq (eLst (aCons (eTup (aCons (eLst aNil) aNil)) (aCons (eTup (aCons eDct aNil)) (aCons (eTup (aCons (eC .non) (aCons (eLst (aCons (eC (.int 0)) aNil)) aNil))) (aCons (eTup (aCons (eTup aNil) aNil)) (aCons (eTup (aCons (eLst aNil) (aCons (eC (.int 0)) aNil))) aNil))))))) (tVal (eBin gIsN (eCall u_is_half [] (aCons (eVarB 8) aNil)) (eC (.bl false)))) (eVarB 8)) (eLst aNil)))) (sRet (eC (.bl false))) sNx)
    (sSeq (sFor (gNf 1) (iSeq (vB (eLst (aCons (eC .non) (aCons (eC (.int 5)) (aCons (eC (.str "")) (aCons (eTup aNil) (aCons (eLst aNil) (aCons eDct (aCons (eC (.bl true)) (aCons (eLst (aCons (eC .non) aNil)) (aCons (eBin gMul1 (eTup (aCons (eC .non) aNil)) (eC (.int 17))) (aCons (eTup (aCons (eTup (aCons (eC (.int 0)) aNil)) aNil)) (aCons (eTup (aCons (eC (.int 0)) aNil)) (aCons (eBin gMul1 (eTup (aCons (eC (.int 1)) (aCons (eC (.int 0)) (aCons (eC .non) (aCons (eC .non) aNil))))) (eC (.int 5))) aNil))))))))))))))) v_law_b1)
    (sSeq (sIf (tB (tOrT (tVal (eBin gIsN (eCall u_is_half [] (aCons (eTup (aCons (eC .non) aNil)) aNil)) (eC (.bl true)))) (tOrT (tVal (eBin gIsN (eCall u_is_half [] (aCons (eBin gMul1 (eTup (aCons (eC .non) aNil)) (eC (.int 16))) aNil)) (eC (.bl true)))) (tVal (eBin gIsN (eCall u_is_half [] (aCons (eBin gMul1 (eTup (aCons (eC (.int 1)) (aCons (eC (.int 0)) aNil))) (eC (.int 1))) aNil)) (eC (.bl true))))))) (sRet (eC (.bl false))) sNx)
    (sSeq (sFor (gNf 2) (iRange1 (vB (eB fMax2 (aCons (eC (.int 1)) (aCons (eB fMin2 (aCons (eC (.int 10)) (aCons (eB fLen (aCons (eVarB 0) aNil)) aNil))) aNil))))) v_law_b2)
    (sRet (eC (.bl true)))))))
def u_law : List U → RF := fnV 1 9 v_law
theorem z_law : SimF none u_law m_law := sim_fn fun C hm => show SimS C v_law (b_law C.p) from
    (sim_seq (sim_sif (sim_tB (sim_val (sim_bin x_gNe (sim_lc (.inl hm) (sim_seqI (sim_lst (sim_cons (sim_tup (sim_cons (sim_lst sim_nil) sim_nil)) (sim_cons (sim_tup (sim_cons sim_dct sim_nil)) (sim_cons (sim_tup (sim_cons sim_non (sim_cons (sim_lst (sim_cons sim_int sim_nil)) sim_nil))) (sim_cons (sim_tup (sim_cons (sim_tup sim_nil) sim_nil)) (sim_cons (sim_tup (sim_cons (sim_lst sim_nil) (sim_cons sim_int sim_nil))) sim_nil))))))) (sim_val (sim_bin x_gIsN (sim_call z_is_half dsc_nil (sim_cons (sim_varB 8) sim_nil)) sim_bl)) (sim_varB 8)) (sim_lst sim_nil)))) (sim_ret sim_bl) sim_nx)
    (sim_seq (sim_for (sim_nf 1 (.inl hm)) (sim_seqI (sim_vB (sim_lst (sim_cons sim_non (sim_cons sim_int (sim_cons sim_str (sim_cons (sim_tup sim_nil) (sim_cons (sim_lst sim_nil) (sim_cons sim_dct (sim_cons sim_bl (sim_cons (sim_lst (sim_cons sim_non sim_nil)) (sim_cons (sim_bin x_gMul1 (sim_tup (sim_cons sim_non sim_nil)) sim_int) (sim_cons (sim_tup (sim_cons (sim_tup (sim_cons sim_int sim_nil)) sim_nil)) (sim_cons (sim_tup (sim_cons sim_int sim_nil)) (sim_cons (sim_bin x_gMul1 (sim_tup (sim_cons sim_int (sim_cons sim_int (sim_cons sim_non (sim_cons sim_non sim_nil))))) sim_int) sim_nil))))))))))))))) (sim_sif (sim_tB (sim_val (sim_bin x_gIsN (sim_call z_is_half dsc_nil (sim_cons (sim_varB 1) sim_nil)) sim_bl))) (sim_ret sim_bl) sim_nx))
    (sim_seq (sim_sif (sim_tB (sim_orT (sim_val (sim_bin x_gIsN (sim_call z_is_half dsc_nil (sim_cons (sim_tup (sim_cons sim_non sim_nil)) sim_nil)) sim_bl)) (sim_orT (sim_val (sim_bin x_gIsN (sim_call z_is_half dsc_nil (sim_cons (sim_bin x_gMul1 (sim_tup (sim_cons sim_non sim_nil)) sim_int) sim_nil)) sim_bl)) (sim_val (sim_bin x_gIsN (sim_call z_is_half dsc_nil (sim_cons (sim_bin x_gMul1 (sim_tup (sim_cons sim_int (sim_cons sim_int sim_nil))) sim_int) sim_nil)) sim_bl))))) (sim_ret sim_bl) sim_nx)
    (sim_seq (sim_for (sim_nf 2 (.inl hm)) (rr_it (sim_rr1 (sim_vB (sim_b x_fMax2 (sim_cons sim_int (sim_cons (sim_b x_fMin2 (sim_cons sim_int (sim_cons (sim_b x_fLen (sim_cons (sim_varB 0) sim_nil)) sim_nil))) sim_nil)))))) (sim_seq (sim_asg (sim_nm 3 (.inl hm)) (sim_vB (sim_call z__law_pool dsc_nil (sim_cons (sim_varB 0) (sim_cons (sim_varB 2) sim_nil)))))
    (sim_seq (sim_asg (sim_nf 4 (.inl hm)) (sim_callM (i := 3) z__law_random_half dsc_nil (sim_cons (sim_bin x_gAdd sim_int (sim_callM (i := 3) z__law_take dsc_nil (sim_cons sim_int sim_nil))) sim_nil)))
    (sim_seq (sim_sif (sim_tB (sim_orT (sim_val (sim_bin x_gIsN (sim_call z_is_half dsc_nil (sim_cons (sim_varB 4) sim_nil)) sim_bl)) (sim_val (sim_bin x_gIsN (sim_call z_is_half dsc_nil (sim_cons (sim_b x_fList (sim_cons (sim_varB 4) sim_nil)) sim_nil)) sim_bl)))) (sim_ret sim_bl) sim_nx)
    (sim_for (sim_nf 5 (.inl hm)) (rr_it (sim_rr1 sim_int)) (sim_seq (sim_asg (sim_nf 6 (.inl hm)) (sim_callM (i := 3) z__law_modified dsc_nil (sim_cons (sim_varN 4) sim_nil)))
    (sim_seq (sim_asg (sim_nf 6 (.inl hm)) (sim_if (sim_tB (sim_andT (sim_val (sim_bin x_gEq (sim_bin x_gMod (sim_varB 5) sim_int) sim_int)) (sim_val (sim_bin x_gNe (sim_varB 6) (sim_tup sim_nil))))) (sim_callM (i := 3) z__law_modified dsc_nil (sim_cons (sim_varN 6) sim_nil)) (sim_varN 6)))
    (sim_seq (sim_asg (sim_nf 7 (.inl hm)) (sim_vB (sim_b x_fRepr (sim_cons (sim_varB 6) sim_nil))))
    (sim_sif (sim_tB (sim_orT (sim_val (sim_bin x_gNe (sim_b x_fRepr (sim_cons (sim_call z_is_half dsc_nil (sim_cons (sim_varB 6) sim_nil)) sim_nil)) (sim_b x_fRepr (sim_cons (sim_call z__law_is_half dsc_nil (sim_cons (sim_varB 6) sim_nil)) sim_nil)))) (sim_val (sim_bin x_gNe (sim_b x_fRepr (sim_cons (sim_varB 6) sim_nil)) (sim_varB 7))))) (sim_ret sim_bl) sim_nx)))))))))
    (sim_ret sim_bl)))))
theorem yes (ns : List Int) (h : ∃ o, u_law [.frz ns] = .ok (.bl true) o) : CC.Yes (m_law [.frz ns] [.ref 0]) := by
  obtain ⟨o, h⟩ := h
  exact yes_of z_law h
end V
end K35
set_option Elab.async false
namespace CCNC
inductive NC (f : Nat → Nat) : List Nat → Prop
  | nil : NC f []
  | cons {a b : Nat} {xs ys : List Nat} (hx : NC f xs) (hy : NC f ys) (ab : f a = b) (ba : f b = a) : NC f (a :: (xs ++ b :: ys))
theorem NC.congr {f g : Nat → Nat} {xs : List Nat} (h : NC f xs) : (∀ x, x ∈ xs → g x = f x) → NC g xs := by
  induction h with
  | nil => intro _; exact .nil
  | @cons a b xs ys hx hy ab ba ihx ihy =>
    intro e
    exact .cons (ihx fun x m => e x (by simp [m])) (ihy fun x m => e x (by simp [m])) (by rw [e a (by simp), ab]) (by rw [e b (by simp), ba])
theorem NC.ne {f : Nat → Nat} {xs : List Nat} (h : NC f xs) : xs.Nodup → ∀ x, x ∈ xs → f x ≠ x := by
  induction h with
  | nil => intro _ x m; cases m
  | @cons a b xs ys hx hy ab ba ihx ihy =>
    intro nd x m
    obtain ⟨na, nd2⟩ := List.nodup_cons.mp nd
    obtain ⟨ndx, ndy2, dis⟩ := List.nodup_append.mp nd2
    obtain ⟨nb, ndy⟩ := List.nodup_cons.mp ndy2
    simp only [List.mem_cons, List.mem_append] at m
    rcases m with rfl | m | rfl | m
    · rw [ab]; rintro rfl; exact na (by simp)
    · exact ihx ndx x m
    · rw [ba]; rintro rfl; exact na (by simp)
    · exact ihy ndy x m
def upd2 (f : Nat → Nat) (a b : Nat) : Nat → Nat := fun x => if x = a then b else if x = b then a else f x
inductive Run : List (List Nat) → (Nat → Nat) → (Nat → Nat) → Prop
  | nil {f : Nat → Nat} : Run [] f f
  | empty {S : List (List Nat)} {f g : Nat → Nat} (h : Run S f g) : Run ([] :: S) f g
  | split {a b : Nat} {xs ys : List Nat} {S : List (List Nat)} {f g : Nat → Nat} (h : Run (ys :: xs :: S) (upd2 f a b) g) : Run ((a :: (xs ++ b :: ys)) :: S) f g
end CCNC
set_option Elab.async false
set_option linter.all false
set_option maxRecDepth 100000
namespace CV
open PySem PySem.Spec PyProof.Rows L2
open CC (mapO)
def dOk (k : Nat) (d : PyData) : Bool := d.canLay0 && decide (d.depth ≤ k)
theorem shaped_of {k : Nat} {d : PyData} (h : dOk k d = true) (hk : k ≤ 64) : SeqAt.shaped d = true := by
  unfold dOk at h
  unfold SeqAt.shaped
  rw [Bool.and_eq_true] at h ⊢
  exact ⟨h.1, decide_eq_true (Nat.le_trans (of_decide_eq_true h.2) hk)⟩
theorem all_dOk {k : Nat} : ∀ {ds : List PyData}, (∀ d ∈ ds, dOk k d = true) → PyData.canLayAll0 ds = true ∧ PyData.depthAll ds ≤ k
  | [], _ => ⟨rfl, Nat.zero_le _⟩
  | d :: ds, h => by
    obtain ⟨h1, h2⟩ := all_dOk (ds := ds) fun x m => h x (List.mem_cons_of_mem _ m)
    have h0 := h d (List.mem_cons_self ..)
    unfold dOk at h0
    rw [Bool.and_eq_true] at h0
    refine ⟨?_, ?_⟩
    · unfold PyData.canLayAll0
      rw [h0.1, h1]; rfl
    · unfold PyData.depthAll
      exact Nat.max_le.mpr ⟨of_decide_eq_true h0.2, h2⟩
theorem dOk_list {k : Nat} {ds : List PyData} (h : ∀ d ∈ ds, dOk k d = true) : dOk (k + 1) (.list ds) = true := by
  obtain ⟨h1, h2⟩ := all_dOk h
  unfold dOk
  rw [Bool.and_eq_true]
  refine ⟨?_, decide_eq_true ?_⟩
  · unfold PyData.canLay0; exact h1
  · unfold PyData.depth; omega
theorem dOk_tup {k : Nat} {ds : List PyData} (h : ∀ d ∈ ds, dOk k d = true) : dOk (k + 1) (.tuple ds) = true := by
  obtain ⟨h1, h2⟩ := all_dOk h
  unfold dOk
  rw [Bool.and_eq_true]
  refine ⟨?_, decide_eq_true ?_⟩
  · unfold PyData.canLay0; exact h1
  · unfold PyData.depth; omega
theorem dOk_int {k : Nat} {i : Int} : dOk (k + 1) (.int i) = true := by
  unfold dOk
  rw [Bool.and_eq_true]
  refine ⟨rfl, decide_eq_true ?_⟩
  show PyData.depth (.int i) ≤ k + 1
  unfold PyData.depth; omega
def wi (n : Nat) : U := .int (n : Int)
end CV
set_option Elab.async false
set_option linter.all false
namespace CV
open PySem PySem.Spec PyProof.Rows L2
namespace St
variable {v v1 v2 v3 v4 : VL} {x y z u o o1 o2 : U} {us us1 : List U} {i j : Nat}
theorem varB (h : v[i]? = some (some u)) : eVarB i v = .ok (bor u) v := by unfold eVarB; rw [h]
theorem varN (h : v[i]? = some (some u)) (n : noO u = true) : eVarN i v = .ok u v := by unfold eVarN; rw [h]; dsimp only; rw [if_pos n]
theorem c : eC u v = .ok u v := rfl
theorem nil : CV.aNil v = .ok [] v := rfl
theorem cons {ma : VL → RU U} {mr : VL → RU (List U)} (h : ma v = .ok x v1) (h2 : mr v1 = .ok us v2) : CV.aCons ma mr v = .ok (x :: us) v2 := by
  unfold CV.aCons; rw [h]; unfold RU.bind; dsimp only; rw [h2]
theorem bin {f : U → U → Option U} {ma mb : VL → RU U} (h : ma v = .ok x v1) (h2 : mb v1 = .ok y v2) (hf : f x y = some z) : eBin f ma mb v = .ok z v2 := by
  unfold eBin; rw [h]; unfold RU.bind; dsimp only; rw [h2]; dsimp only; rw [hf]; rfl
theorem un {f : U → Option U} {ma : VL → RU U} (h : ma v = .ok x v1) (hf : f x = some z) : eUn f ma v = .ok z v1 := by
  unfold eUn; rw [h]; unfold RU.bind; dsimp only; rw [hf]; rfl
theorem eb {f : List U → Option U} {mr : VL → RU (List U)} (h : mr v = .ok us v1) (hf : f us = some z) : CV.eB f mr v = .ok z v1 := by
  unfold CV.eB; rw [h]; unfold RU.bind; dsimp only; rw [hf]; rfl
theorem eb1 {f : List U → Option U} {ma : VL → RU U} (h : ma v = .ok x v1) (hf : f [x] = some z) : CV.eB f (CV.aCons ma CV.aNil) v = .ok z v1 := eb (cons h nil) hf
theorem vb {m : VL → RU U} (h : m v = .ok u v1) (n : noB u = true) : CV.vB m v = .ok u v := by unfold CV.vB; rw [h]; dsimp only; rw [if_pos n]
theorem tb {m : VL → RU Bool} {b : Bool} (h : m v = .ok b v1) : CV.tB m v = .ok b v := by unfold CV.tB; rw [h]
theorem tv {m : VL → RU U} {b : Bool} (h : m v = .ok (.bl b) v1) : CV.tVal m v = .ok b v1 := by unfold CV.tVal; rw [h]; rfl
theorem tup {mr : VL → RU (List U)} (h : mr v = .ok us v1) (hl : us.length ≤ 1000000) (hb : us.all noB = true) : CV.eTup mr v = .ok (.tup (us.map CV.frz)) v1 := by
  unfold CV.eTup; rw [h]; unfold RU.bind; dsimp only; rw [if_pos ⟨hl, hb⟩]
theorem lst {mr : VL → RU (List U)} (h : mr v = .ok us v1) (hl : us.length ≤ 1000000) (hb : us.all noB = true) : CV.eLst mr v = .ok (.lst .o us) v1 := by
  unfold CV.eLst; rw [h]; unfold RU.bind; dsimp only; rw [if_pos ⟨hl, hb⟩]
theorem so {m : VL → RU U} {k : Int} (h : m v = .ok (.int k) v1) : CV.oSo m v = .ok (some k) v1 := by
  unfold CV.oSo; rw [h]; rfl
theorem sl {mo : VL → RU U} {ml mh : VL → RU (Option Int)} {lo hi : Option Int} (h : mo v = .ok o v1) (h2 : ml v1 = .ok lo v2) (h3 : mh v2 = .ok hi v3) (hf : gSl o lo hi = some z) : CV.eSl mo ml mh v = .ok z v3 := by
  unfold CV.eSl; rw [h]; unfold RU.bind; dsimp only; rw [h2]; dsimp only; rw [h3]; dsimp only; rw [hf]; rfl
theorem callM {F : List U → RF} {ds : List U} {mr : VL → RU (List U)} (h0 : ∃ w, v[i]? = some (some w)) (h : mr v = .ok us v1) (h1 : v1[i]? = some (some o)) (hf : F (o :: (us ++ ds)) = .ok u o1) : CV.eCallM i F ds mr v = .ok u (v1.set i (some o1)) := by
  obtain ⟨w, h0⟩ := h0
  unfold CV.eCallM; rw [h0]; dsimp only; rw [h]; unfold RU.bind; dsimp only; rw [h1]; dsimp only; rw [hf]; rfl
theorem call {F : List U → RF} {ds : List U} {mr : VL → RU (List U)} (h : mr v = .ok us v1) (hf : F (us ++ ds) = .ok u o1) : CV.eCall F ds mr v = .ok u v1 := by
  unfold CV.eCall; rw [h]; unfold RU.bind; dsimp only; rw [hf]; rfl
theorem mt {g : U → List U → Option (U × U)} {mr : VL → RU (List U)} {ws ws' : List U} (h0 : v[i]? = some (some (.lst .o ws))) (h : mr v = .ok us v1) (h1 : v1[i]? = some (some (.lst .o ws'))) (hg : g (.lst .o ws') us = some (u, o1)) : CV.eMut i g mr v = .ok u (v1.set i (some o1)) := by
  unfold CV.eMut; rw [h0]; dsimp only; rw [h]; unfold RU.bind; dsimp only; rw [h1]; dsimp only; rw [if_pos (show isOwn (U.lst Fl.o ws') = true from rfl), hg]
theorem asgF {me : VL → RU U} (h : me v = .ok u v1) : CV.sAsg (CV.gNf i) me v = .nx (v1.set i (some (CV.frz u))) := by
  unfold CV.sAsg; rw [h]; rfl
theorem asgM {me : VL → RU U} (h : me v = .ok u v1) : CV.sAsg (CV.gNm i) me v = .nx (v1.set i (some u)) := by
  unfold CV.sAsg; rw [h]; rfl
theorem asg {g : U → VL → Option VL} {me : VL → RU U} (h : me v = .ok u v1) (hg : g u v1 = some v2) : CV.sAsg g me v = .nx v2 := by
  unfold CV.sAsg; rw [h]; unfold RU.toS; dsimp only; rw [hg]; rfl
theorem ex {me : VL → RU U} (h : me v = .ok u v1) : CV.sEx me v = .nx v1 := by
  unfold CV.sEx; rw [h]; rfl
theorem ret {me : VL → RU U} (h : me v = .ok u v1) (n : noB u = true) : CV.sRet me v = .ret u v1 := by
  unfold CV.sRet; rw [h]; unfold RU.toS; dsimp only; rw [if_pos n]
theorem nx {m k : VL → RSU} (h : m v = .nx v1) : CV.sSeq m k v = k v1 := by unfold CV.sSeq; rw [h]; exact fV_eq _ _
theorem ift {mt : VL → RU Bool} {ma mb : VL → RSU} (h : mt v = .ok true v1) : CV.sIf mt ma mb v = ma v1 := by unfold CV.sIf; rw [h]
theorem iff {mt : VL → RU Bool} {ma mb : VL → RSU} (h : mt v = .ok false v1) : CV.sIf mt ma mb v = mb v1 := by unfold CV.sIf; rw [h]
theorem fz {g : U → VL → Option VL} (h : g (CV.frz u) v = some v1) : CV.gFz g u v = some v1 := h
theorem st {mi : VL → RU U} {j : U} (h0 : ∃ w, v[i]? = some (some w)) (h : mi v = .ok j v1) (h1 : v1[i]? = some (some o)) (hs : setO o j u = some o1) : CV.gSt i mi u v = some (v1.set i (some o1)) := by
  obtain ⟨w, h0⟩ := h0
  unfold CV.gSt; rw [h0]; dsimp only; rw [h]; dsimp only; rw [h1]; dsimp only; rw [hs]
theorem gtup2 {g1 g2 : U → VL → Option VL} (h1 : g1 x v = some v1) (h2 : g2 y v1 = some v2) : CV.gTupT 2 (CV.gsCons g1 (CV.gsCons g2 CV.gsNil)) (.tup [x, y]) v = some v2 := by
  unfold CV.gTupT; dsimp only; rw [if_pos (show [x, y].length = 2 from rfl)]; unfold CV.gsCons; dsimp only; rw [h1]; dsimp only; rw [h2]; rfl
theorem for_cons {g : U → VL → Option VL} {b : VL → RSU} (hg : g u v = some v1) (hb : b v1 = .nx v2) : CV.forL g b (u :: us) v = CV.forL g b us v2 := by
  rw [CV.forL, hg]; dsimp only; rw [hb]; exact fV_eq _ _
theorem sfor {g : U → VL → Option VL} {b : VL → RSU} {mi : VL → RU (List U)} (h : mi v = .ok us v1) : CV.sFor g mi b v = CV.forL g b us v1 := by
  unfold CV.sFor; rw [h]; rfl
theorem fnM_ret {j np N : Nat} {b : VL → RSU} {vs : VL} (hl : us.length = np) (hv : us.map some ++ List.replicate (N - us.length) none = vs) (hb : b vs = .ret u v) (ho : CV.outO j v = some o) : CV.fnM j np N b us = .ok u o := by
  unfold CV.fnM; rw [if_pos hl, hv, hb]; dsimp only; rw [ho]
theorem fnV_ret {np N : Nat} {b : VL → RSU} {vs : VL} (hl : us.length = np) (hv : us.map some ++ List.replicate (N - us.length) none = vs) (hb : b vs = .ret u v) : CV.fnV np N b us = .ok u .non := by
  unfold CV.fnV; rw [if_pos hl, hv, hb]
theorem seqR {m k : VL → RSU} (h : m v = .ret u v1) : CV.sSeq m k v = .ret u v1 := by unfold CV.sSeq; rw [h]
theorem andT {ma mb : VL → RU U} (h : ma v = .ok (.bl true) v1) : CV.eAndV ma mb v = mb v1 := by unfold CV.eAndV; rw [h]; rfl
theorem andF {ma mb : VL → RU U} (h : ma v = .ok (.bl false) v1) : CV.eAndV ma mb v = .ok (.bl false) v1 := by unfold CV.eAndV; rw [h]; rfl
theorem not {ma : VL → RU U} {b : Bool} (h : ma v = .ok (.bl b) v1) : CV.eNotV ma v = .ok (.bl (!b)) v1 := by unfold CV.eNotV; rw [h]; rfl
theorem orTF {ma mb : VL → RU Bool} (h : ma v = .ok false v1) : CV.tOrT ma mb v = mb v1 := by unfold CV.tOrT; rw [h]; rfl
theorem notT {ma : VL → RU Bool} {b : Bool} (h : ma v = .ok b v1) : CV.tNotT ma v = .ok (!b) v1 := by unfold CV.tNotT; rw [h]; rfl
theorem isi {q : CC.TK → Option Bool} {ma : VL → RU U} {b : Bool} (h : ma v = .ok u v1) (hq : q (tyU u) = some b) : CV.eIsi q ma v = .ok (.bl b) v1 := by
  unfold CV.eIsi; rw [h]; unfold RU.bind; dsimp only; rw [hq]
theorem chainT {f f' : U → U → Option U} {ma mb mc : VL → RU U} {w : U} (h : ma v = .ok x v1) (h2 : mb v1 = .ok y v2) (hf : f x y = some (.bl true)) (h3 : mc v2 = .ok u v3) (hf' : f' y u = some w) : CV.eChain f f' ma mb mc v = .ok w v3 := by
  unfold CV.eChain; rw [h]; unfold RU.bind; dsimp only; rw [h2]; dsimp only; rw [hf]; dsimp only; rw [h3]; dsimp only; rw [hf']; rfl
theorem par2 {g1 g2 : U → VL → Option VL} {mr : VL → RU (List U)} (h : mr v = .ok [x, y] v1) (h1 : g1 x v1 = some v2) (h2 : g2 y v2 = some v3) : CV.sPar2 g1 g2 mr v = .nx v3 := by
  unfold CV.sPar2; rw [h]; dsimp only; rw [h1]; dsimp only; rw [h2]; rfl
theorem iseq {ma : VL → RU U} (h : ma v = .ok u v1) (hi : itemsU u = some us) : CV.iSeq ma v = .ok us v1 := by
  unfold CV.iSeq; rw [h]; unfold RU.bind; dsimp only; rw [hi]
theorem ienm {ma : VL → RU U} (h : ma v = .ok u v1) (hi : itemsU u = some us) (hb : us.all noB = true) : CV.iEnm ma v = .ok (enU 0 us) v1 := by
  unfold CV.iEnm; rw [h]; unfold RU.bind; dsimp only; rw [hi]; dsimp only; rw [if_pos hb]
theorem lc {ct : CC.CTg} {mi : VL → RU (List U)} {t : VL → RU Bool} {e : VL → RU U} {ys : List U} (h : mi v = .ok us v1) (hn : noOs v1 ct.slots = true) (hl : CV.lcL ct t e us (wipeV v1 ct.slots) = .ok ys v2) (hy : ys.length ≤ 1000000) (hb : ys.all noB = true) : CV.eLc ct mi t e v = .ok (.lst .o ys) (restV v1 v2 ct.slots) := by
  unfold CV.eLc; rw [h]; unfold RU.bind; dsimp only; rw [if_pos hn, hl]; dsimp only; rw [if_pos ⟨hy, hb⟩]
theorem b62_of {i : Int} (a : -(2 ^ 62) ≤ i) (b : i < 2 ^ 62) : CC.b62 i = true := by
  unfold CC.b62; rw [decide_eq_true a, decide_eq_true b]; rfl
theorem b62_nat {n : Nat} (hn : n < 1000000) : CC.b62 (n : Int) = true := by
  obtain ⟨i, hi⟩ : ∃ i : Int, i = (n : Int) := ⟨_, rfl⟩
  rw [← hi]
  exact b62_of (by omega) (by omega)
theorem rgI {ma : VL → RU U} {i : Int} (h : ma v = .ok (.int i) v1) (hb : CC.b62 i = true) : CV.iRange1 ma v = .ok (rngU 0 1 i.toNat) v1 := by
  unfold CV.iRange1; rw [h]; unfold RU.bind; dsimp only; rw [if_pos hb]
theorem rg1 {ma : VL → RU U} {n : Nat} (h : ma v = .ok (.int (n : Int)) v1) (hn : n < 1000000) : CV.iRange1 ma v = .ok (rngU 0 1 n) v1 := by
  rw [rgI h (b62_nat hn), Int.toNat_natCast]
end St
end CV
set_option Elab.async false
set_option linter.all false
set_option maxRecDepth 100000
set_option maxHeartbeats 1000000
namespace K35.V
open PySem PySem.Spec PyProof.Rows L2 CV
theorem i64_of {i : Int} (a : -(2 ^ 64) < i) (b : i < 2 ^ 64) : CC.i64 i = true := by
  unfold CC.i64; rw [decide_eq_true a, decide_eq_true b]; rfl
theorem atI_nat {us : List U} {k : Nat} {u : U} (h : us[k]? = some u) : atI us (k : Int) = some u := by
  have hk := (List.getElem?_eq_some_iff.mp h).1
  unfold atI ixN
  rw [if_pos (by omega), if_pos (by omega)]
  simpa using h
theorem seq_nx {m k : VL → RSU} {v v1 : VL} (h : m v = .nx v1) : sSeq m k v = k v1 := by unfold sSeq; rw [h]; exact fV_eq _ _
def mixed (c k : Int) : Int := (c % 2147483629 + 7919 * k * k + 31 * k + 17) * 48271 % 2147483647
def cell (ns : List Int) (k : Nat) : Int := if h : k < ns.length then (if ns[k] < 0 then -ns[k] else ns[k]) else 0
theorem cell_nn (ns : List Int) (k : Nat) : 0 ≤ cell ns k := by
  unfold cell; split
  · split <;> omega
  · decide
theorem take_spec (a b n : Int) (ha : 0 ≤ a) (hb : 0 ≤ b) (h0 : 0 < n) (h1 : n < 1606938044258990275541962092341162602522202993782792835301376) : ∃ a' b' r : Int, 0 ≤ a' ∧ 0 ≤ b' ∧ 0 ≤ r ∧ r < n ∧ u__law_take [.lst .o [.int a, .int b], .int n] = .ok (.int r) (.lst .o [.int a', .int b']) := by
  have e3 : CC.i64 48271 = true := rfl
  have e7 : ∀ a : Int, CC.i64 (a % 2147483647) = true := fun a => i64_of (by have := Int.emod_nonneg a (show (2147483647 : Int) ≠ 0 by decide); omega) (by have := Int.emod_lt_of_pos a (show (0 : Int) < 2147483647 by decide); omega)
  have q0 : ∀ x y : U, atI [x, y] 0 = some x := fun _ _ => rfl
  have q1 : ∀ x y : U, atI [x, y] 1 = some y := fun _ _ => rfl
  have j0 : ixN 2 0 = some 0 := rfl
  have j1 : ixN 2 1 = some 1 := rfl
  by_cases h : 0 < a
  · refine ⟨a / n, b, a % n, Int.ediv_nonneg ha (by omega), hb, Int.emod_nonneg _ (by omega), Int.emod_lt_of_pos _ h0, ?_⟩
    simp [u__law_take, fnM, v__law_take, sSeq, sIf, sAsg, sEx, sRet, sRetN, sNx, sBrk, sCt, sAug, sPar2, sPar3, sRaise, sFldA, gNm, gNf, gFz, gSt, gTupT, gsNil, gsCons, nxO, fV, fV_eq, RU.toS, RU.bind, vB, CV.tB, CV.tVal, tAndT, tOrT, tNotT, tTrue, eVarB, eVarN, eMov, eFrz, eC, eBin, eUn, CV.aNil, CV.aCons, eTup, eLst, eB, eIf, eAndV, eOrV, eNotV, ofO, ofF, eCall, eCallM, eCallM1, backM, eMeth, eMakeM, makeO, isCU, eFld, lookFU, itm, CV.frz, CV.bor, CV.noB, CV.noO, eIsi, tyU, CC.qInt, CC.qBool, CC.qTup, CC.qLst, CC.qStr, CC.qT, oNo, oSo, eDct, putFU, isOwn, outO, gGt, gIx, getI, gMod, gFdiv, setO, q0, q1, j0, j1, h, h0, h1]
  · refine ⟨a, (b * 48271 + 12345) % 2147483647, (((b * 48271 + 12345) % 2147483647) * ((b * 48271 + 12345) % 2147483647) % 2147483629) / 64 % n, ha, Int.emod_nonneg _ (by decide), Int.emod_nonneg _ (by omega), Int.emod_lt_of_pos _ h0, ?_⟩
    simp [u__law_take, fnM, v__law_take, sSeq, sIf, sAsg, sEx, sRet, sRetN, sNx, sBrk, sCt, sAug, sPar2, sPar3, sRaise, sFldA, gNm, gNf, gFz, gSt, gTupT, gsNil, gsCons, nxO, fV, fV_eq, RU.toS, RU.bind, vB, CV.tB, CV.tVal, tAndT, tOrT, tNotT, tTrue, eVarB, eVarN, eMov, eFrz, eC, eBin, eUn, CV.aNil, CV.aCons, eTup, eLst, eB, eIf, eAndV, eOrV, eNotV, ofO, ofF, eCall, eCallM, eCallM1, backM, eMeth, eMakeM, makeO, isCU, eFld, lookFU, itm, CV.frz, CV.bor, CV.noB, CV.noO, eIsi, tyU, CC.qInt, CC.qBool, CC.qTup, CC.qLst, CC.qStr, CC.qT, oNo, oSo, eDct, putFU, isOwn, outO, gGt, gIx, getI, gMod, gFdiv, gMul, gAdd, setO, q0, q1, j0, j1, h, h0, h1, e3, e7]
theorem pow18 : gPow (.int 10) (.int 18) = some (.int 1000000000000000000) := rfl
theorem pool_core (ns : List Int) (z v c : Int) (e6 : CC.i64 (7919 * z) = true) (h : z < (ns.length : Int) → atI (List.map U.int ns) z = some (.int v)) (hc : c = if z < (ns.length : Int) then (if v < 0 then -v else v) else 0) :
    u__law_pool [.frz ns, .int z] = .ok (.lst .o [.int (c * (if decide (1000000000000000000 ≤ c) then 1 else 0)), .int (mixed c z * mixed c z % 2147483629)]) .non := by
  have e0 : CC.i64 0 = true := rfl
  have e1 : CC.i64 7919 = true := rfl
  have e2 : CC.i64 31 = true := rfl
  have e3 : CC.i64 48271 = true := rfl
  have e7 : ∀ a : Int, CC.i64 (a % 2147483647) = true := fun a => i64_of (by have := Int.emod_nonneg a (show (2147483647 : Int) ≠ 0 by decide); omega) (by have := Int.emod_lt_of_pos a (show (0 : Int) < 2147483647 by decide); omega)
  have e9 : ∀ p : Prop, ∀ _ : Decidable p, CC.i64 (if p then 1 else 0) = true := fun p _ => by split <;> rfl
  have sB : sIf (CV.tB (CV.tVal (eBin gLt (eVarB 1) (eB fLen (CV.aCons (eVarB 0) CV.aNil))))) (sAsg (gNf 2) (vB (eB fAbs (CV.aCons (eBin gIx (eVarB 0) (eVarB 1)) CV.aNil)))) sNx [some (.frz ns), some (.int z), some (.int 0), none] = .nx [some (.frz ns), some (.int z), some (.int c), none] := by
    by_cases q : z < (ns.length : Int)
    · rw [if_pos q] at hc
      simp [sSeq, sIf, sAsg, sEx, sRet, sRetN, sNx, sBrk, sCt, sAug, sPar2, sPar3, sRaise, sFldA, gNm, gNf, gFz, gSt, gTupT, gsNil, gsCons, nxO, fV, fV_eq, RU.toS, RU.bind, vB, CV.tB, CV.tVal, tAndT, tOrT, tNotT, tTrue, eVarB, eVarN, eMov, eFrz, eC, eBin, eUn, CV.aNil, CV.aCons, eTup, eLst, eB, eIf, eAndV, eOrV, eNotV, ofO, ofF, eCall, eCallM, eCallM1, backM, eMeth, eMakeM, makeO, isCU, eFld, lookFU, itm, CV.frz, CV.bor, CV.noB, CV.noO, eIsi, tyU, CC.qInt, CC.qBool, CC.qTup, CC.qLst, CC.qStr, CC.qT, oNo, oSo, eDct, putFU, isOwn, outO, gLt, gIx, getI, fLen, lenU, fAbs, h q, q, hc]
    · rw [if_neg q] at hc
      simp [sSeq, sIf, sAsg, sEx, sRet, sRetN, sNx, sBrk, sCt, sAug, sPar2, sPar3, sRaise, sFldA, gNm, gNf, gFz, gSt, gTupT, gsNil, gsCons, nxO, fV, fV_eq, RU.toS, RU.bind, vB, CV.tB, CV.tVal, tAndT, tOrT, tNotT, tTrue, eVarB, eVarN, eMov, eFrz, eC, eBin, eUn, CV.aNil, CV.aCons, eTup, eLst, eB, eIf, eAndV, eOrV, eNotV, ofO, ofF, eCall, eCallM, eCallM1, backM, eMeth, eMakeM, makeO, isCU, eFld, lookFU, itm, CV.frz, CV.bor, CV.noB, CV.noO, eIsi, tyU, CC.qInt, CC.qBool, CC.qTup, CC.qLst, CC.qStr, CC.qT, oNo, oSo, eDct, putFU, isOwn, outO, gLt, gIx, getI, fLen, lenU, fAbs, q, hc]
  have sA : sAsg (gNf 2) (eC (.int 0)) [some (.frz ns), some (.int z), none, none] = .nx [some (.frz ns), some (.int z), some (.int 0), none] := rfl
  generalize hm : mixed c z = m
  have em : CC.i64 m = true := by rw [← hm]; exact e7 _
  unfold mixed at hm
  have sC : sAsg (gNf 3) (vB (eBin gMod (eBin gMul (eBin gAdd (eBin gAdd (eBin gAdd (eBin gMod (eVarB 2) (eC (.int 2147483629))) (eBin gMul (eBin gMul (eC (.int 7919)) (eVarB 1)) (eVarB 1))) (eBin gMul (eC (.int 31)) (eVarB 1))) (eC (.int 17))) (eC (.int 48271))) (eC (.int 2147483647)))) [some (.frz ns), some (.int z), some (.int c), none] = .nx [some (.frz ns), some (.int z), some (.int c), some (.int m)] := by
    simp [sSeq, sIf, sAsg, sEx, sRet, sRetN, sNx, sBrk, sCt, sAug, sPar2, sPar3, sRaise, sFldA, gNm, gNf, gFz, gSt, gTupT, gsNil, gsCons, nxO, fV, fV_eq, RU.toS, RU.bind, vB, CV.tB, CV.tVal, tAndT, tOrT, tNotT, tTrue, eVarB, eVarN, eMov, eFrz, eC, eBin, eUn, CV.aNil, CV.aCons, eTup, eLst, eB, eIf, eAndV, eOrV, eNotV, ofO, ofF, eCall, eCallM, eCallM1, backM, eMeth, eMakeM, makeO, isCU, eFld, lookFU, itm, CV.frz, CV.bor, CV.noB, CV.noO, eIsi, tyU, CC.qInt, CC.qBool, CC.qTup, CC.qLst, CC.qStr, CC.qT, oNo, oSo, eDct, putFU, isOwn, outO, gMod, gMul, gAdd, e1, e2, e3, e6, hm]
  have sD : v__law_pool [some (.frz ns), some (.int z), none, none] = .ret (.lst .o [.int (c * (if decide (1000000000000000000 ≤ c) then 1 else 0)), .int (m * m % 2147483629)]) [some (.frz ns), some (.int z), some (.int c), some (.int m)] := by
    unfold v__law_pool
    rw [seq_nx sA, seq_nx sB, seq_nx sC]
    simp [sSeq, sIf, sAsg, sEx, sRet, sRetN, sNx, sBrk, sCt, sAug, sPar2, sPar3, sRaise, sFldA, gNm, gNf, gFz, gSt, gTupT, gsNil, gsCons, nxO, fV, fV_eq, RU.toS, RU.bind, vB, CV.tB, CV.tVal, tAndT, tOrT, tNotT, tTrue, eVarB, eVarN, eMov, eFrz, eC, eBin, eUn, CV.aNil, CV.aCons, eTup, eLst, eB, eIf, eAndV, eOrV, eNotV, ofO, ofF, eCall, eCallM, eCallM1, backM, eMeth, eMakeM, makeO, isCU, eFld, lookFU, itm, CV.frz, CV.bor, CV.noB, CV.noO, eIsi, tyU, CC.qInt, CC.qBool, CC.qTup, CC.qLst, CC.qStr, CC.qT, oNo, oSo, eDct, putFU, isOwn, outO, gMod, gMul, gGe, fInt, pow18, e9, em]
  unfold u__law_pool fnV
  show (match v__law_pool [some (.frz ns), some (.int z), none, none] with | .ret u _ => RF.ok u .non | .nx _ => .ok .non .non | .exc c u _ => .exc c u .non | _ => .bad) = _
  rw [sD]
theorem pool_spec (ns : List Int) (k : Nat) (hk : k < 64) : ∃ a b : Int, 0 ≤ a ∧ 0 ≤ b ∧ u__law_pool [.frz ns, .int (k : Int)] = .ok (.lst .o [.int a, .int b]) .non := by
  refine ⟨_, _, ?_, ?_, pool_core ns k (if h : k < ns.length then ns[k] else 0) (cell ns k) (i64_of (by omega) (by omega)) (fun h => ?_) ?_⟩
  · have := cell_nn ns k
    split <;> omega
  · exact Int.emod_nonneg _ (by decide)
  · have h' : k < ns.length := by omega
    rw [dif_pos h']
    exact atI_nat (by rw [List.getElem?_map, List.getElem?_eq_getElem h']; rfl)
  · unfold cell
    by_cases h : k < ns.length
    · have h' : (k : Int) < (ns.length : Int) := by omega
      simp only [dif_pos h, if_pos h']
    · rw [dif_neg h, if_neg (by omega)]
abbrev PL (a b : Int) : U := .lst .o [.int a, .int b]
theorem take_nat (a b : Int) (n : Nat) (ha : 0 ≤ a) (hb : 0 ≤ b) (h0 : 0 < n) (h1 : n < 1000000) : ∃ (a' b' : Int) (q : Nat), 0 ≤ a' ∧ 0 ≤ b' ∧ q < n ∧ u__law_take [PL a b, .int (n : Int)] = .ok (.int (q : Int)) (PL a' b') := by
  obtain ⟨z, hz⟩ : ∃ z : Int, z = (n : Int) := ⟨_, rfl⟩
  obtain ⟨a', b', r, ha', hb', r0, r1, tk⟩ := take_spec a b z ha hb (by omega) (by omega)
  refine ⟨a', b', r.toNat, ha', hb', by omega, ?_⟩
  rw [← hz, tk, Int.toNat_of_nonneg r0]
theorem count_of (N n : Nat) (h1 : 1 ≤ N) (hN : N < 1000) : ∃ (m : Nat) (w : Int), m ≤ N ∧ fMin2 [.int (N : Int), .int (n : Int)] = some (.int w) ∧ fMax2 [.int 1, .int w] = some (.int (m : Int)) := by
  obtain ⟨z, hz⟩ : ∃ z : Int, z = (n : Int) := ⟨_, rfl⟩
  obtain ⟨y, hy⟩ : ∃ y : Int, y = (N : Int) := ⟨_, rfl⟩
  rw [← hz, ← hy]
  have mn : ∃ w : Int, w ≤ y ∧ fMin2 [.int y, .int z] = some (.int w) := by
    unfold fMin2; dsimp only
    split
    · exact ⟨_, by omega, rfl⟩
    · exact ⟨y, by omega, rfl⟩
  obtain ⟨w, hw, mn⟩ := mn
  have mx : ∃ m : Int, 0 ≤ m ∧ m ≤ y ∧ fMax2 [.int 1, .int w] = some (.int m) := by
    unfold fMax2; dsimp only
    split
    · exact ⟨_, by omega, by omega, rfl⟩
    · exact ⟨1, by omega, by omega, rfl⟩
  obtain ⟨m, m0, m6, mx⟩ := mx
  refine ⟨m.toNat, w, by omega, mn, ?_⟩
  rw [Int.toNat_of_nonneg m0]
  exact mx
end K35.V
set_option Elab.async false
set_option linter.all false
set_option maxRecDepth 100000
namespace CV
open PySem PySem.Spec PyProof.Rows L2
open CC (mapO)
structure Rq (k : Nat) (d : PyData) : Prop where
  ok : dOk k d = true
  rf : PyData.eqv d d = true
theorem Rq.int {i : Int} : Rq 1 (.int i) := ⟨dOk_int, by show (i == i) = true; simp⟩
theorem Rq.str {z : Str} (h : PyData.strOk z = true) : Rq 1 (.str z) := ⟨by
  unfold dOk
  rw [Bool.and_eq_true]
  refine ⟨by unfold PyData.canLay0; exact h, decide_eq_true ?_⟩
  show PyData.depth (.str z) ≤ 1
  unfold PyData.depth; omega, by show (z == z) = true; exact beq_self_eq_true z⟩
theorem eqvAll_refl : ∀ {ds : List PyData}, (∀ d ∈ ds, PyData.eqv d d = true) → PyData.eqvAll ds ds = true
  | [], _ => rfl
  | d :: ds, h => by
    show (PyData.eqv d d && PyData.eqvAll ds ds) = true
    rw [h d List.mem_cons_self, eqvAll_refl fun x m => h x (List.mem_cons_of_mem _ m)]
    rfl
theorem Rq.list {k : Nat} {ds : List PyData} (h : ∀ d ∈ ds, Rq k d) : Rq (k + 1) (.list ds) := ⟨dOk_list fun d m => (h d m).ok, by
  show PyData.eqvAll ds ds = true
  exact eqvAll_refl fun d m => (h d m).rf⟩
theorem Rq.tup {k : Nat} {ds : List PyData} (h : ∀ d ∈ ds, Rq k d) : Rq (k + 1) (.tuple ds) := ⟨dOk_tup fun d m => (h d m).ok, by
  show PyData.eqvAll ds ds = true
  exact eqvAll_refl fun d m => (h d m).rf⟩
theorem Rq.mono {k j : Nat} {d : PyData} (h : Rq k d) (l : k ≤ j) : Rq j d := ⟨by
  have := h.ok
  unfold dOk at this ⊢
  rw [Bool.and_eq_true] at this ⊢
  exact ⟨this.1, decide_eq_true (Nat.le_trans (of_decide_eq_true this.2) l)⟩, h.rf⟩
theorem eqD_self {x y : U} {k : Nat} {d : PyData} (hx : datU 12 x = some d) (hy : datU 12 y = some d) (h : Rq k d) (hk : k ≤ 64) : gEqD x y = some true := by
  unfold gEqD
  rw [hx, hy]
  dsimp only
  rw [if_pos (by rw [shaped_of h.ok hk]; rfl), h.rf]
theorem gNe_self {x y : U} {k : Nat} {d : PyData} (hx : datU 12 x = some d) (hy : datU 12 y = some d) (h : Rq k d) (hk : k ≤ 64) (hi : ∀ i, x ≠ .int i) : gNe x y = some (.bl false) := by
  have : gEqB x y = gEqD x y := by
    unfold gEqB
    cases x <;> first | rfl | exact absurd rfl (hi _)
  unfold gNe
  rw [this, eqD_self hx hy h hk]
  rfl
theorem gEq_self {x y : U} {k : Nat} {d : PyData} (hx : datU 12 x = some d) (hy : datU 12 y = some d) (h : Rq k d) (hk : k ≤ 64) (hi : ∀ i, x ≠ .int i) : gEq x y = some (.bl true) := by
  have : gEqB x y = gEqD x y := by
    unfold gEqB
    cases x <;> first | rfl | exact absurd rfl (hi _)
  unfold gEq
  rw [this, eqD_self hx hy h hk]
theorem strOk_app {x y : Str} (h1 : PyData.strOk x = true) (h2 : PyData.strOk y = true) : PyData.strOk (x ++ y) = true := by
  unfold PyData.strOk at h1 h2 ⊢
  show (x.cps ++ y.cps).all _ = true
  rw [Array.all_append, h1, h2]
  rfl
structure Rp (k B : Nat) (d : PyData) : Prop where
  q : Rq k d
  sh : d.showable = true
  le : d.shown.length ≤ B
  so : PyData.strOk d.shown = true
theorem int_strOk : ∀ n : Fin 100, PyData.strOk (PyData.shown (.int (n.1 : Int))) = true := by decide +kernel
theorem textFrom_ok : ∀ (ts : List Str) (k : Nat) (acc : Str), PyData.strOk acc = true → (∀ t ∈ ts, PyData.strOk t = true) → PyData.strOk (textFrom k acc ts) = true
  | [], _, _, h, _ => h
  | t :: ts, k, acc, h, ht => by
    refine textFrom_ok ts (k + 1) (acc ++ (if k > 0 then ", " else "" : String) ++ t) (strOk_app (strOk_app h ?_) (ht t List.mem_cons_self)) fun x m => ht x (List.mem_cons_of_mem _ m)
    split <;> decide +kernel
theorem join_ok : ∀ ts : List Str, (∀ t ∈ ts, PyData.strOk t = true) → PyData.strOk (Str.join ", " ts) = true
  | [], _ => by decide +kernel
  | [t], h => h t List.mem_cons_self
  | t :: u :: r, h => strOk_app (strOk_app (h t List.mem_cons_self) (by decide +kernel)) (join_ok (u :: r) fun x m => h x (List.mem_cons_of_mem _ m))
theorem shownAll_ok : ∀ {ds : List PyData}, (∀ d ∈ ds, PyData.strOk d.shown = true) → ∀ t ∈ PyData.shownAll ds, PyData.strOk t = true
  | [], _, t, m => by cases m
  | d :: ds, h, t, m => by
    rcases List.mem_cons.mp (show t ∈ PyData.shown d :: PyData.shownAll ds from m) with rfl | m
    · exact h d List.mem_cons_self
    · exact shownAll_ok (fun x m => h x (List.mem_cons_of_mem _ m)) t m
theorem int_shown : ∀ n : Fin 100, (PyData.shown (.int (n.1 : Int))).length ≤ 3 := by decide +kernel
theorem int_showable : ∀ n : Fin 100, PyData.showable (.int (n.1 : Int)) = true := by decide +kernel
theorem Rp.int {n : Nat} (h : n < 100) : Rp 1 3 (.int (n : Int)) := ⟨.int, int_showable ⟨n, h⟩, int_shown ⟨n, h⟩, int_strOk ⟨n, h⟩⟩
theorem textFrom_le {B : Nat} : ∀ (ts : List Str) (k : Nat) (acc : Str), (∀ t ∈ ts, t.length ≤ B) → (textFrom k acc ts).length ≤ acc.length + ts.length * (B + 2)
  | [], k, acc, _ => by show acc.length ≤ _; simp
  | t :: ts, k, acc, h => by
    show (textFrom (k + 1) (acc ++ (if k > 0 then ", " else "" : String) ++ t) ts).length ≤ _
    have ih := textFrom_le ts (k + 1) (acc ++ (if k > 0 then ", " else "" : String) ++ t) fun x m => h x (List.mem_cons_of_mem _ m)
    have ht := h t List.mem_cons_self
    have e : (acc ++ (if k > 0 then ", " else "" : String) ++ t).length ≤ acc.length + 2 + t.length := by
      rw [strLen_append, strLen_append]
      split
      · show acc.length + 2 + t.length ≤ _; omega
      · show acc.length + 0 + t.length ≤ _; omega
    rw [List.length_cons, Nat.succ_mul]
    omega
theorem shownAll_le {B : Nat} : ∀ {ds : List PyData}, (∀ d ∈ ds, d.shown.length ≤ B) → (∀ t ∈ PyData.shownAll ds, t.length ≤ B) ∧ (PyData.shownAll ds).length = ds.length
  | [], _ => ⟨fun t m => (by cases m), rfl⟩
  | d :: ds, h => by
    obtain ⟨h1, h2⟩ := shownAll_le (ds := ds) fun x m => h x (List.mem_cons_of_mem _ m)
    refine ⟨fun t m => ?_, by show (PyData.shownAll ds).length + 1 = _; rw [h2]; rfl⟩
    rcases List.mem_cons.mp (show t ∈ PyData.shown d :: PyData.shownAll ds from m) with rfl | m
    · exact h d List.mem_cons_self
    · exact h1 t m
theorem showableAll_of : ∀ {ds : List PyData}, (∀ d ∈ ds, d.showable = true) → PyData.showableAll ds = true
  | [], _ => rfl
  | d :: ds, h => by
    show (PyData.showable d && PyData.showableAll ds) = true
    rw [h d List.mem_cons_self, showableAll_of fun x m => h x (List.mem_cons_of_mem _ m)]
    rfl
theorem piled_le {B : Nat} : ∀ {ts : List Str}, (∀ t ∈ ts, t.length ≤ B) → piled ts ≤ ts.length * (B + 2)
  | [], _ => by rw [piled_nil]; omega
  | t :: ts, h => by
    have := piled_le (ts := ts) fun x m => h x (List.mem_cons_of_mem _ m)
    have := h t List.mem_cons_self
    rw [piled_cons, List.length_cons, Nat.succ_mul]
    omega
theorem Rp.list {k B : Nat} {ds : List PyData} (h : ∀ d ∈ ds, Rp k B d) : Rp (k + 1) (2 + ds.length * (B + 2)) (.list ds) := by
  obtain ⟨h1, h2⟩ := shownAll_le (B := B) fun d m => (h d m).le
  refine ⟨.list fun d m => (h d m).q, showableAll_of fun d m => (h d m).sh, ?_, strOk_app (textFrom_ok _ _ _ (by decide +kernel) (shownAll_ok fun d m => (h d m).so)) (by decide +kernel)⟩
  show (textFrom 0 "[" (PyData.shownAll ds) ++ "]").length ≤ _
  have := textFrom_le (B := B) (PyData.shownAll ds) 0 "[" h1
  rw [h2] at this
  rw [strLen_append]
  have e1 : (("[" : String) : Str).length = 1 := rfl
  have e2 : (("]" : String) : Str).length = 1 := rfl
  rw [e1] at this
  omega
theorem Rp.tup {k B : Nat} {ds : List PyData} (h : ∀ d ∈ ds, Rp k B d) : Rp (k + 1) (3 + ds.length * (B + 2)) (.tuple ds) := by
  obtain ⟨h1, h2⟩ := shownAll_le (B := B) fun d m => (h d m).le
  refine ⟨.tup fun d m => (h d m).q, showableAll_of fun d m => (h d m).sh, ?_, strOk_app (strOk_app (by decide +kernel) (join_ok _ (shownAll_ok fun d m => (h d m).so))) (by split <;> decide +kernel)⟩
  show (("(" : Str) ++ Str.join ", " (PyData.shownAll ds) ++ (if (PyData.shownAll ds).length == 1 then ",)" else ")" : String)).length ≤ _
  have hp := piled_le h1
  rw [h2] at hp
  have hj : (Str.join ", " (PyData.shownAll ds)).length ≤ piled (PyData.shownAll ds) := by
    by_cases e : PyData.shownAll ds = []
    · rw [e]; exact Nat.zero_le _
    · have := join_length_add _ e
      omega
  rw [strLen_append, strLen_append]
  have e1 : (("(" : String) : Str).length = 1 := rfl
  have e2 : ((if (PyData.shownAll ds).length == 1 then ",)" else ")" : String) : Str).length ≤ 2 := by
    split
    · show 2 ≤ 2; omega
    · show 1 ≤ 2; omega
  rw [e1]
  omega
theorem Rp.mono {k B B' : Nat} {d : PyData} (h : Rp k B d) (hb : B ≤ B') : Rp k B' d := ⟨h.q, h.sh, Nat.le_trans h.le hb, h.so⟩
theorem canLay_of {k : Nat} {d : PyData} (h : dOk k d = true) : d.canLay0 = true ∧ d.depth ≤ k := by
  unfold dOk at h
  rw [Bool.and_eq_true] at h
  exact ⟨h.1, of_decide_eq_true h.2⟩
theorem repr_ok {x : U} {k B : Nat} {d : PyData} (hx : datU 12 x = some d) (h : Rp k B d) (hk : k ≤ 40) (hB : B ≤ 1000000) : fRepr [x] = some (.str d.shown) := by
  obtain ⟨h1, h2⟩ := canLay_of h.q.ok
  have h3 := PyData.hasDict_of_canLay d h1
  unfold fRepr
  dsimp only
  rw [hx]
  dsimp only
  rw [if_pos (by rw [h.sh, h3, decide_eq_true (Nat.le_trans h2 hk), decide_eq_true (Nat.le_trans h.le hB)]; rfl)]
theorem ne_str {a : Str} (h : PyData.strOk a = true) : gNe (.str a) (.str a) = some (.bl false) := gNe_self (d := .str a) rfl rfl (.str h) (by decide) (fun i z => nomatch z)
theorem St.chainF {f f' : U → U → Option U} {ma mb mc : VL → RU U} {v v1 v2 : VL} {x y : U} (h : ma v = .ok x v1) (h2 : mb v1 = .ok y v2) (hf : f x y = some (.bl false)) : CV.eChain f f' ma mb mc v = .ok (.bl false) v2 := by
  unfold CV.eChain; rw [h]; unfold RU.bind; dsimp only; rw [h2]; dsimp only; rw [hf]
end CV
set_option Elab.async false
set_option linter.all false
set_option maxRecDepth 100000
namespace CV
open PySem PySem.Spec PyProof.Rows L2
namespace Q
theorem add (a b : Nat) : gAdd (wi a) (wi b) = some (wi (a + b)) := by
  show some (U.int ((a : Int) + (b : Int))) = some (U.int ((a + b : Nat) : Int))
  rw [Int.natCast_add]
theorem sub {a b : Nat} (h : b ≤ a) : gSub (wi a) (wi b) = some (wi (a - b)) := by
  show some (U.int ((a : Int) - (b : Int))) = some (U.int ((a - b : Nat) : Int))
  rw [Int.natCast_sub h]
theorem mod {a b : Nat} (h : 0 < b) : gMod (wi a) (wi b) = some (wi (a % b)) := by
  show (if (0 : Int) < (b : Int) then some (U.int ((a : Int) % (b : Int))) else none) = some (U.int ((a % b : Nat) : Int))
  rw [if_pos (by omega), Int.natCast_emod]
theorem lt (a b : Nat) : gLt (wi a) (wi b) = some (.bl (decide (a < b))) := by
  show some (U.bl (decide ((a : Int) < (b : Int)))) = _
  rw [show decide ((a : Int) < (b : Int)) = decide (a < b) from decide_eq_decide.mpr Int.ofNat_lt]
theorem le (a b : Nat) : gLe (wi a) (wi b) = some (.bl (decide (a ≤ b))) := by
  show some (U.bl (decide ((a : Int) ≤ (b : Int)))) = _
  rw [show decide ((a : Int) ≤ (b : Int)) = decide (a ≤ b) from decide_eq_decide.mpr Int.ofNat_le]
theorem gt (a b : Nat) : gGt (wi a) (wi b) = some (.bl (decide (b < a))) := lt b a
theorem ge (a b : Nat) : gGe (wi a) (wi b) = some (.bl (decide (b ≤ a))) := le b a
theorem lt_t {a b : Nat} (h : a < b) : gLt (wi a) (wi b) = some (.bl true) := by rw [lt, decide_eq_true h]
theorem lt_f {a b : Nat} (h : ¬ a < b) : gLt (wi a) (wi b) = some (.bl false) := by rw [lt, decide_eq_false h]
theorem gt_t {a b : Nat} (h : b < a) : gGt (wi a) (wi b) = some (.bl true) := lt_t h
theorem gt_f {a b : Nat} (h : ¬ b < a) : gGt (wi a) (wi b) = some (.bl false) := lt_f h
theorem eqB_wi (a b : Nat) : gEqB (wi a) (wi b) = some (decide (a = b)) := by
  show some (((a : Int)) == (b : Int)) = some (decide (a = b))
  by_cases h : a = b
  · subst h; simp
  · have : ¬ (a : Int) = (b : Int) := by omega
    simp [h, this]
theorem eq (a b : Nat) : gEq (wi a) (wi b) = some (.bl (decide (a = b))) := by unfold gEq; rw [eqB_wi]
theorem ne (a b : Nat) : gNe (wi a) (wi b) = some (.bl (!decide (a = b))) := by unfold gNe; rw [eqB_wi]
theorem ne_t {a b : Nat} (h : ¬ a = b) : gNe (wi a) (wi b) = some (.bl true) := by rw [ne, decide_eq_false h]; rfl
theorem ne_f {a b : Nat} (h : a = b) : gNe (wi a) (wi b) = some (.bl false) := by rw [ne, decide_eq_true h]; rfl
theorem max2 (a b : Nat) : fMax2 [wi a, wi b] = some (wi (max a b)) := by
  show some (U.int (if (b : Int) > (a : Int) then (b : Int) else (a : Int))) = some (U.int ((max a b : Nat) : Int))
  by_cases h : (b : Int) > (a : Int)
  · rw [if_pos h, Nat.max_eq_right (by omega)]
  · rw [if_neg h, Nat.max_eq_left (by omega)]
theorem min2 (a b : Nat) : fMin2 [wi a, wi b] = some (wi (min a b)) := by
  show some (U.int (if (b : Int) < (a : Int) then (b : Int) else (a : Int))) = some (U.int ((min a b : Nat) : Int))
  by_cases h : (b : Int) < (a : Int)
  · rw [if_pos h, Nat.min_eq_right (by omega)]
  · rw [if_neg h, Nat.min_eq_left (by omega)]
theorem len (z : Fl) (us : List U) : fLen [.lst z us] = some (wi us.length) := rfl
theorem lenT (us : List U) : fLen [.tup us] = some (wi us.length) := rfl
theorem lenF (ns : List Int) : fLen [.frz ns] = some (wi ns.length) := rfl
end Q
namespace St
variable {v v1 v2 v3 v4 : VL} {x y z u o o1 o2 : U} {us us1 : List U} {i j : Nat}
theorem eifT {mt : VL → RU Bool} {ma mb : VL → RU U} (h : mt v = .ok true v1) (h2 : ma v1 = .ok u v2) : CV.eIf mt ma mb v = .ok u v2 := by unfold CV.eIf; rw [h]; exact h2
theorem eifF {mt : VL → RU Bool} {ma mb : VL → RU U} (h : mt v = .ok false v1) (h2 : mb v1 = .ok u v2) : CV.eIf mt ma mb v = .ok u v2 := by unfold CV.eIf; rw [h]; exact h2
theorem orVF {ma mb : VL → RU U} (h : ma v = .ok (.bl false) v1) (h2 : mb v1 = .ok u v2) : CV.eOrV ma mb v = .ok u v2 := by unfold CV.eOrV; rw [h]; exact h2
theorem orVT {ma mb : VL → RU U} (h : ma v = .ok (.bl true) v1) : CV.eOrV ma mb v = .ok (.bl true) v1 := by unfold CV.eOrV; rw [h]; first | done | rfl
theorem tAndTT {ma mb : VL → RU Bool} {b : Bool} (h : ma v = .ok true v1) (h2 : mb v1 = .ok b v2) : CV.tAndT ma mb v = .ok b v2 := by unfold CV.tAndT; rw [h]; exact h2
theorem tAndTF {ma mb : VL → RU Bool} (h : ma v = .ok false v1) : CV.tAndT ma mb v = .ok false v1 := by unfold CV.tAndT; rw [h]; rfl
theorem tOrTF {ma mb : VL → RU Bool} {b : Bool} (h : ma v = .ok false v1) (h2 : mb v1 = .ok b v2) : CV.tOrT ma mb v = .ok b v2 := by unfold CV.tOrT; rw [h]; exact h2
theorem tOrTT {ma mb : VL → RU Bool} (h : ma v = .ok true v1) : CV.tOrT ma mb v = .ok true v1 := by unfold CV.tOrT; rw [h]; rfl
theorem for_ret {g : U → VL → Option VL} {b : VL → RSU} (hg : g u v = some v1) (hb : b v1 = .ret x v2) : CV.forL g b (u :: us) v = .ret x v2 := by
  rw [CV.forL, hg]; dsimp only; rw [hb]
end St
end CV
set_option Elab.async false
set_option linter.all false
set_option maxRecDepth 100000
namespace CV
open PySem PySem.Spec PyProof.Rows L2
open CC (mapO)
def Sm (n : Nat) (x y : U) : Prop := ∃ d, datU n x = some d ∧ datU n y = some d ∧ Rq n d
def Sms (n : Nat) (xs ys : List U) : Prop := ∃ ds, mapO (datU n) xs = some ds ∧ mapO (datU n) ys = some ds ∧ ∀ d ∈ ds, Rq n d
theorem Sms.nil {n : Nat} : Sms n [] [] := ⟨[], rfl, rfl, fun d m => by cases m⟩
theorem Sms.cons {n : Nat} {x y : U} {xs ys : List U} (h : Sm n x y) (r : Sms n xs ys) : Sms n (x :: xs) (y :: ys) := by
  obtain ⟨d, a, b, c⟩ := h
  obtain ⟨ds, a', b', c'⟩ := r
  refine ⟨d :: ds, ?_, ?_, fun e m => (List.mem_cons.mp m).elim (fun q => by rw [q]; exact c) (c' e)⟩
  · unfold mapO; rw [a, a']
  · unfold mapO; rw [b, b']
theorem Sms.map {n : Nat} {α : Type} {f g : α → U} : ∀ {l : List α}, (∀ a ∈ l, Sm n (f a) (g a)) → Sms n (l.map f) (l.map g)
  | [], _ => Sms.nil
  | a :: l, h => Sms.cons (h a (List.mem_cons_self ..)) (Sms.map fun b m => h b (List.mem_cons_of_mem _ m))
theorem Sm.int {n : Nat} {i : Int} : Sm (n + 1) (.int i) (.int i) := ⟨.int i, rfl, rfl, Rq.int.mono (by omega)⟩
theorem Sm.wi {n a : Nat} : Sm (n + 1) (wi a) (wi a) := Sm.int
theorem Rq.bl {b : Bool} : Rq 1 (.bool b) := ⟨by cases b <;> rfl, by cases b <;> rfl⟩
theorem Rq.non : Rq 1 .none := ⟨rfl, rfl⟩
theorem Sm.bl {n : Nat} {b : Bool} : Sm (n + 1) (.bl b) (.bl b) := ⟨.bool b, rfl, rfl, Rq.bl.mono (by omega)⟩
theorem Sm.non {n : Nat} : Sm (n + 1) .non .non := ⟨.none, rfl, rfl, Rq.non.mono (by omega)⟩
theorem Sm.str {n : Nat} {z : Str} (h : PyData.strOk z = true) : Sm (n + 1) (.str z) (.str z) := ⟨.str z, rfl, rfl, (Rq.str h).mono (by omega)⟩
theorem Sm.tup {n : Nat} {xs ys : List U} (h : Sms n xs ys) : Sm (n + 1) (.tup xs) (.tup ys) := by
  obtain ⟨ds, a, b, c⟩ := h
  exact ⟨.tuple ds, by unfold datU; rw [a], by unfold datU; rw [b], Rq.tup c⟩
theorem Sm.lst {n : Nat} {z z' : Fl} {xs ys : List U} (h : Sms n xs ys) : Sm (n + 1) (.lst z xs) (.lst z' ys) := by
  obtain ⟨ds, a, b, c⟩ := h
  exact ⟨.list ds, by unfold datU; rw [a], by unfold datU; rw [b], Rq.list c⟩
theorem Sm.eq {x y : U} (h : Sm 12 x y) (hi : ∀ i, x ≠ .int i) : gEq x y = some (.bl true) := by
  obtain ⟨d, a, b, c⟩ := h
  exact gEq_self a b c (by decide) hi
theorem Sm.ne {x y : U} (h : Sm 12 x y) (hi : ∀ i, x ≠ .int i) : gNe x y = some (.bl false) := by
  obtain ⟨d, a, b, c⟩ := h
  exact gNe_self a b c (by decide) hi
theorem Sm.symm {n : Nat} {x y : U} (h : Sm n x y) : Sm n y x := by
  obtain ⟨d, a, b, c⟩ := h
  exact ⟨d, b, a, c⟩
end CV
set_option Elab.async false
set_option linter.all false
set_option maxRecDepth 100000
namespace CV
open PySem PySem.Spec PyProof.Rows L2
section
variable {α : Type} {ct : CC.CTg} {t : VL → RU Bool} {e : VL → RU U} {mi : VL → RU (List U)} {v v1 : VL} {enc F : α → U} {w : α → VL} {p : α → Bool}
theorem lcA_ : ∀ (l : List α), (∀ a ∈ l, bindV (enc a) v1 ct = some (w a) ∧ t (w a) = .ok (p a) (w a) ∧ (p a = true → e (w a) = .ok (F a) (w a)) ∧ wipeV (w a) ct.slots = v1) → lcL ct t e (l.map enc) v1 = .ok ((l.filter p).map F) v1
  | [], _ => rfl
  | a :: l, h => by
    obtain ⟨h1, h2, h3, h4⟩ := h a (List.mem_cons_self ..)
    have ih := lcA_ l fun x m => h x (List.mem_cons_of_mem _ m)
    rw [List.map_cons]
    unfold lcL
    rw [h1]
    dsimp only
    rw [h2]
    cases hp : p a with
    | false =>
      dsimp only
      rw [h4, ih, List.filter_cons_of_neg (by simp [hp])]
    | true =>
      dsimp only
      rw [h3 hp]
      dsimp only
      rw [h4, ih, List.filter_cons_of_pos hp]
      rfl
theorem lcA {l : List α} (hi : mi v = .ok (l.map enc) v1) (hn : noOs v1 ct.slots = true) (hw : wipeV v1 ct.slots = v1) (hr : restV v1 v1 ct.slots = v1) (hl : l.length ≤ 1000000)
    (h : ∀ a ∈ l, bindV (enc a) v1 ct = some (w a) ∧ t (w a) = .ok (p a) (w a) ∧ (p a = true → e (w a) = .ok (F a) (w a) ∧ noB (F a) = true) ∧ wipeV (w a) ct.slots = v1) :
    eLc ct mi t e v = .ok (.lst .o ((l.filter p).map F)) v1 := by
  have lc := lcA_ (t := t) (e := e) (v1 := v1) (ct := ct) (enc := enc) (F := F) (w := w) (p := p) l fun a m => by
    obtain ⟨h1, h2, h3, h4⟩ := h a m
    exact ⟨h1, h2, fun q => (h3 q).1, h4⟩
  have := St.lc (t := t) (e := e) (ct := ct) (us := l.map enc) (v1 := v1) (v2 := v1) (ys := (l.filter p).map F) hi hn (by rw [hw]; exact lc) (by rw [List.length_map]; exact Nat.le_trans (List.length_filter_le ..) hl) (List.all_eq_true.mpr fun x mx => by
    obtain ⟨a, ma, rfl⟩ := List.mem_map.mp mx
    obtain ⟨m1, m2⟩ := List.mem_filter.mp ma
    exact ((h a m1).2.2.1 m2).2)
  rw [hr] at this
  exact this
theorem lcM {l : List α} (hi : mi v = .ok (l.map enc) v1) (hn : noOs v1 ct.slots = true) (hw : wipeV v1 ct.slots = v1) (hr : restV v1 v1 ct.slots = v1) (hl : l.length ≤ 1000000)
    (h : ∀ a ∈ l, bindV (enc a) v1 ct = some (w a) ∧ (e (w a) = .ok (F a) (w a) ∧ noB (F a) = true) ∧ wipeV (w a) ct.slots = v1) :
    eLc ct mi tTrue e v = .ok (.lst .o (l.map F)) v1 := by
  have := lcA (t := tTrue) (e := e) (p := fun _ => true) (F := F) (w := w) hi hn hw hr hl fun a m => by
    obtain ⟨h1, h2, h3⟩ := h a m
    exact ⟨h1, rfl, fun _ => h2, h3⟩
  rw [List.filter_eq_self.mpr fun _ _ => rfl] at this
  exact this
end
namespace Q
theorem rngW (n : Nat) : ∀ k : Nat, rngU (k : Int) 1 n = (List.range' k n).map wi := by
  induction n with
  | zero => intro k; rfl
  | succ n ih =>
    intro k
    rw [List.range'_succ, List.map_cons, ← ih (k + 1)]
    rfl
end Q
namespace St
variable {v v1 v2 v3 v4 : VL}
theorem rg1W {ma : VL → RU U} {n : Nat} (h : ma v = .ok (wi n) v1) (hn : n < 1000000) : CV.iRange1 ma v = .ok ((List.range' 0 n).map wi) v1 := by
  rw [rg1 h hn]
  exact congrArg (fun x => RU.ok x v1) (Q.rngW n 0)
end St
end CV
namespace CCNC
def pnd (f : Nat → Option Nat) (c : Nat) : List Nat := (List.range c).filter fun a => match f a with | some b => decide (c ≤ b) | none => false
def okc (f : Nat → Option Nat) (c : Nat) : Prop := ∀ o, f c = some o → ∀ m, min c o < m → m < max c o → ∃ e, f m = some e ∧ min c o < e ∧ e < max c o
def stp (f : Nat → Option Nat) (c : Nat) : Prop := match f c with | none => pnd f c = [] | some o => o < c → (pnd f c).getLast? = some o
def Ivl (f : Nat → Option Nat) (n : Nat) : Prop := ∀ c o, c < n → f c = some o → o < n ∧ o ≠ c ∧ f o = some c
theorem pnd_mem {f : Nat → Option Nat} {c a : Nat} : a ∈ pnd f c ↔ a < c ∧ ∃ b, f a = some b ∧ c ≤ b := by
  unfold pnd
  rw [List.mem_filter, List.mem_range]
  constructor
  · rintro ⟨h1, h2⟩
    refine ⟨h1, ?_⟩
    split at h2
    · exact ⟨_, by assumption, of_decide_eq_true h2⟩
    · cases h2
  · rintro ⟨h1, b, h2, h3⟩
    refine ⟨h1, ?_⟩
    rw [h2]; exact decide_eq_true h3
theorem pnd_asc (f : Nat → Option Nat) (c : Nat) : (pnd f c).Pairwise (· < ·) := List.pairwise_lt_range.filter _
theorem last_max {l : List Nat} (pw : l.Pairwise (· < ·)) {t : Nat} (h : l.getLast? = some t) : t ∈ l ∧ ∀ a ∈ l, a ≤ t := by
  obtain ⟨r, rfl⟩ := List.getLast?_eq_some_iff.mp h
  refine ⟨by simp, fun a m => ?_⟩
  rcases List.mem_append.mp m with m | m
  · exact Nat.le_of_lt ((List.pairwise_append.mp pw).2.2 a m t (by simp))
  · simp at m; omega
theorem last_of {l : List Nat} (pw : l.Pairwise (· < ·)) {t : Nat} (m : t ∈ l) (h : ∀ a ∈ l, a ≤ t) : l.getLast? = some t := by
  cases e : l.getLast? with
  | none => rw [List.getLast?_eq_none_iff.mp e] at m; cases m
  | some u =>
    have z := last_max pw e
    have := z.2 _ m
    have := h u z.1
    congr 1; omega
theorem plan_iff {f : Nat → Option Nat} {n : Nat} (iv : Ivl f n) : (∀ c, c < n → okc f c) ↔ ∀ c, c < n → stp f c := by
  constructor
  · intro h c hc
    unfold stp
    split
    · rename_i e
      cases p : pnd f c with
      | nil => rfl
      | cons a r =>
        obtain ⟨h1, b, h2, h3⟩ := pnd_mem.mp (show a ∈ pnd f c by rw [p]; simp)
        have hb : b ≠ c := fun z => by
          have := (iv a b (by omega) h2).2.2
          rw [z, e] at this; cases this
        obtain ⟨e', h4, _⟩ := h a (by omega) b h2 c (by omega) (by omega)
        rw [e] at h4; cases h4
    · rename_i o e
      intro lt
      have i := iv c o hc e
      refine last_of (pnd_asc f c) (pnd_mem.mpr ⟨lt, c, i.2.2, Nat.le_refl _⟩) fun a m => ?_
      obtain ⟨h1, b, h2, h3⟩ := pnd_mem.mp m
      apply Nat.le_of_not_lt
      intro gt
      obtain ⟨e', h4, h5, h6⟩ := h c hc o e a (by omega) (by omega)
      rw [h2] at h4; cases h4
      omega
  · intro h
    have key : ∀ a b, a < b → b < n → f a = some b → ∀ m, a < m → m < b → ∃ e, f m = some e ∧ a < e ∧ e < b := by
      intro a b ab bn fa m am mb
      have ia := iv a b (by omega) fa
      cases fm : f m with
      | none =>
        have := h m (by omega)
        unfold stp at this
        rw [fm] at this
        dsimp only at this
        have : a ∈ pnd f m := pnd_mem.mpr ⟨am, b, fa, by omega⟩
        rw [‹pnd f m = []›] at this; cases this
      | some e =>
        have im := iv m e (by omega) fm
        refine ⟨e, rfl, ?_, ?_⟩
        · apply Nat.lt_of_not_le
          intro le
          rcases Nat.lt_or_eq_of_le le with lt | eq
          · have := h m (by omega)
            unfold stp at this
            rw [fm] at this
            have := last_max (pnd_asc f m) (this (by omega))
            have := this.2 a (pnd_mem.mpr ⟨am, b, fa, by omega⟩)
            omega
          · rw [eq, fa] at im
            have := Option.some.inj im.2.2
            omega
        · apply Nat.lt_of_not_le
          intro le
          rcases Nat.lt_or_eq_of_le le with lt | eq
          · have := h b bn
            unfold stp at this
            rw [ia.2.2] at this
            have := last_max (pnd_asc f b) (this ab)
            have := this.2 m (pnd_mem.mpr ⟨mb, e, fm, by omega⟩)
            omega
          · rw [← eq, ia.2.2] at im
            have := Option.some.inj im.2.2
            omega
    intro c hc o e m m1 m2
    have i := iv c o hc e
    rcases Nat.lt_or_ge c o with lt | ge
    · rw [Nat.min_eq_left (by omega), Nat.max_eq_right (by omega)] at *
      exact key c o lt i.1 e m m1 m2
    · rw [Nat.min_eq_right (by omega), Nat.max_eq_left (by omega)] at *
      exact key o c (by omega) hc i.2.2 m m1 m2
theorem pnd_succ (f : Nat → Option Nat) (c : Nat) : pnd f (c + 1) = ((pnd f c).filter fun a => decide (f a ≠ some c)) ++ (match f c with | some b => if c + 1 ≤ b then [c] else [] | none => []) := by
  unfold pnd
  rw [List.range_succ, List.filter_append, List.filter_filter]
  congr 1
  · apply List.filter_congr
    intro a m
    cases e : f a with
    | none => simp
    | some b =>
      by_cases h : b = c
      · subst h; simp
      · simp [h]; omega
  · rw [List.filter_cons, List.filter_nil]
    cases f c with
    | none => rfl
    | some b => by_cases h : c + 1 ≤ b <;> simp [h]
theorem filter_self {l : List Nat} {p : Nat → Bool} (h : ∀ a ∈ l, p a = true) : l.filter p = l := List.filter_eq_self.mpr h
theorem pnd_none {f : Nat → Option Nat} {n c : Nat} (iv : Ivl f n) (hc : c < n) (e : f c = none) : pnd f (c + 1) = pnd f c := by
  rw [pnd_succ, e, List.append_nil]
  refine filter_self fun a m => decide_eq_true fun z => ?_
  have := (iv a c (by have := (pnd_mem.mp m).1; omega) z).2.2
  rw [e] at this; cases this
theorem pnd_open {f : Nat → Option Nat} {n c o : Nat} (iv : Ivl f n) (hc : c < n) (e : f c = some o) (lt : c < o) : pnd f (c + 1) = pnd f c ++ [c] := by
  rw [pnd_succ, e]
  dsimp only
  rw [if_pos (by omega)]
  congr 1
  refine filter_self fun a m => decide_eq_true fun z => ?_
  have h1 := (pnd_mem.mp m).1
  have := (iv a c (by omega) z).2.2
  rw [e] at this
  have := Option.some.inj this
  omega
theorem pnd_close {f : Nat → Option Nat} {n c o : Nat} (iv : Ivl f n) (hc : c < n) (e : f c = some o) (lt : o < c) (r : List Nat) (h : pnd f c = r ++ [o]) : pnd f (c + 1) = r := by
  have i := iv c o hc e
  rw [pnd_succ, e]
  dsimp only
  rw [if_neg (by omega), List.append_nil, h, List.filter_append, List.filter_cons, List.filter_nil]
  have : decide (f o ≠ some c) = false := decide_eq_false fun z => z i.2.2
  rw [this]
  simp only [Bool.false_eq_true, if_false, List.append_nil]
  refine filter_self fun a m => decide_eq_true fun z => ?_
  have pw := pnd_asc f c
  rw [h] at pw
  have := (List.pairwise_append.mp pw).2.2 a m o (by simp)
  have am := (pnd_mem.mp (show a ∈ pnd f c by rw [h]; exact List.mem_append_left _ m)).1
  have := (iv a c (by omega) z).2.2
  rw [e] at this
  have := Option.some.inj this
  omega
theorem pnd_last {f : Nat → Option Nat} {n c o : Nat} (iv : Ivl f n) (hc : c < n) (e : f c = some o) (lt : o < c) : ∃ r t, pnd f c = r ++ [t] := by
  have m : o ∈ pnd f c := pnd_mem.mpr ⟨lt, c, (iv c o hc e).2.2, Nat.le_refl _⟩
  have ne : pnd f c ≠ [] := fun z => by rw [z] at m; cases m
  exact ⟨_, _, (List.dropLast_concat_getLast ne).symm⟩
theorem stp_cases {f : Nat → Option Nat} {n c : Nat} (iv : Ivl f n) (hc : c < n) : (f c = none ∧ pnd f c ≠ [] ∧ ¬ stp f c) ∨ (f c = none ∧ pnd f c = [] ∧ stp f c ∧ pnd f (c + 1) = []) ∨ (∃ o, f c = some o ∧ c < o ∧ stp f c ∧ pnd f (c + 1) = pnd f c ++ [c]) ∨ (∃ o r, f c = some o ∧ o < c ∧ pnd f c = r ++ [o] ∧ stp f c ∧ pnd f (c + 1) = r) ∨ (∃ o r t, f c = some o ∧ o < c ∧ pnd f c = r ++ [t] ∧ t ≠ o ∧ ¬ stp f c) := by
  cases e : f c with
  | none =>
    by_cases p : pnd f c = []
    · exact .inr (.inl ⟨rfl, p, by unfold stp; rw [e]; exact p, by rw [pnd_none iv hc e, p]⟩)
    · exact .inl ⟨rfl, p, fun z => p (by unfold stp at z; rw [e] at z; exact z)⟩
  | some o =>
    have i := iv c o hc e
    rcases Nat.lt_or_ge c o with lt | ge
    · exact .inr (.inr (.inl ⟨o, rfl, lt, by unfold stp; rw [e]; intro z; omega, pnd_open iv hc e lt⟩))
    · have lt : o < c := by omega
      obtain ⟨r, t, h⟩ := pnd_last iv hc e lt
      have g : (pnd f c).getLast? = some t := by rw [h]; simp
      by_cases q : t = o
      · subst q
        exact .inr (.inr (.inr (.inl ⟨t, r, rfl, lt, h, by unfold stp; rw [e]; exact fun _ => g, pnd_close iv hc e lt r h⟩)))
      · exact .inr (.inr (.inr (.inr ⟨o, r, t, rfl, lt, h, q, fun z => q (by unfold stp at z; rw [e] at z; have := z lt; rw [g] at this; exact Option.some.inj this)⟩)))
def upf (f : Nat → Option Nat) (a b : Nat) : Nat → Option Nat := fun x => if x = a then some b else f x
structure Jh (w c : Nat) (f : Nat → Option Nat) (P : List Nat) : Prop where
  as : P.Pairwise (· < ·)
  lt : ∀ p ∈ P, p < c ∧ f p = none
  hi : ∀ x, c ≤ x → f x = none
  ln : P.length ≤ w - c
  iv : ∀ x o, f x = some o → o < c ∧ o ≠ x ∧ f o = some x
  ar : ∀ x o, f x = some o → ∀ m, min x o < m → m < max x o → ∃ e, f m = some e ∧ min x o < e ∧ e < max x o
  pd : ∀ p ∈ P, ∀ m, p < m → m < c → m ∈ P ∨ ∃ e, f m = some e ∧ p < e
theorem Jh.zero (w : Nat) : Jh w 0 (fun _ => none) [] := ⟨.nil, nofun, fun _ _ => rfl, Nat.zero_le _, nofun, nofun, nofun⟩
theorem Jh.skip {w c : Nat} {f : Nat → Option Nat} (h : Jh w c f []) : Jh w (c + 1) f [] :=
  ⟨.nil, nofun, fun x hx => h.hi x (by omega), Nat.zero_le _, fun x o e => by have := h.iv x o e; exact ⟨by omega, this.2⟩, h.ar, nofun⟩
theorem Jh.push {w c : Nat} {f : Nat → Option Nat} {P : List Nat} (h : Jh w c f P) (hl : P.length < w - c - 1) : Jh w (c + 1) f (P ++ [c]) := by
  refine ⟨?_, fun p m => ?_, fun x hx => h.hi x (by omega), by simp; omega, fun x o e => by have := h.iv x o e; exact ⟨by omega, this.2⟩, h.ar, fun p m k h1 h2 => ?_⟩
  · refine List.pairwise_append.mpr ⟨h.as, by simp, fun a ma b mb => ?_⟩
    simp at mb; subst mb
    exact (h.lt a ma).1
  · rcases List.mem_append.mp m with m | m
    · have := h.lt p m; exact ⟨by omega, this.2⟩
    · simp at m; subst m
      exact ⟨by omega, h.hi _ (Nat.le_refl _)⟩
  · rcases List.mem_append.mp m with m | m
    · rcases Nat.lt_or_eq_of_le (Nat.le_of_lt_succ h2) with lt | rfl
      · rcases h.pd p m k h1 lt with q | q
        · exact .inl (List.mem_append_left _ q)
        · exact .inr q
      · exact .inl (by simp)
    · simp at m; omega
theorem Jh.close {w c t : Nat} {f : Nat → Option Nat} {r : List Nat} (h : Jh w c f (r ++ [t])) : Jh w (c + 1) (upf (upf f c t) t c) r := by
  have ht := h.lt t (by simp)
  have hc := h.hi c (Nat.le_refl _)
  obtain ⟨as1, _, as2⟩ := List.pairwise_append.mp h.as
  have rt : ∀ p ∈ r, p < t := fun p m => as2 p m t (by simp)
  have ft : upf (upf f c t) t c t = some c := by unfold upf; rw [if_pos rfl]
  have fc : upf (upf f c t) t c c = some t := by unfold upf; rw [if_neg (by omega), if_pos rfl]
  have fo : ∀ x, x ≠ t → x ≠ c → upf (upf f c t) t c x = f x := fun x h1 h2 => by unfold upf; rw [if_neg h1, if_neg h2]
  have ln := h.ln
  simp at ln
  have inner : ∀ m, t < m → m < c → ∃ e, f m = some e ∧ t < e ∧ e < c := fun m h1 h2 => by
    rcases h.pd t (by simp) m h1 h2 with q | ⟨e, q, le⟩
    · rcases List.mem_append.mp q with q | q
      · have := rt m q; omega
      · simp at q; omega
    · exact ⟨e, q, le, (h.iv m e q).1⟩
  refine ⟨as1, fun p m => ?_, fun x hx => ?_, by omega, fun x o e => ?_, fun x o e m h1 h2 => ?_, fun p mp m h1 h2 => ?_⟩
  · have := h.lt p (List.mem_append_left _ m)
    have lt := rt p m
    exact ⟨by omega, by rw [fo p (by omega) (by omega)]; exact this.2⟩
  · rw [fo x (by omega) (by omega)]
    exact h.hi x (by omega)
  · by_cases xt : x = t
    · subst xt
      rw [ft] at e; cases e
      exact ⟨by omega, by omega, fc⟩
    · by_cases xc : x = c
      · subst xc
        rw [fc] at e; cases e
        exact ⟨by omega, by omega, ft⟩
      · rw [fo x xt xc] at e
        have i := h.iv x o e
        have ot : o ≠ t := fun z => by
          have := i.2.2
          rw [z, ht.2] at this; cases this
        exact ⟨by omega, i.2.1, by rw [fo o ot (by omega)]; exact i.2.2⟩
  · by_cases xt : x = t
    · subst xt
      rw [ft] at e; cases e
      obtain ⟨e, q1, q2, q3⟩ := inner m (by omega) (by omega)
      exact ⟨e, by rw [fo m (by omega) (by omega)]; exact q1, by omega, by omega⟩
    · by_cases xc : x = c
      · subst xc
        rw [fc] at e; cases e
        obtain ⟨e, q1, q2, q3⟩ := inner m (by omega) (by omega)
        exact ⟨e, by rw [fo m (by omega) (by omega)]; exact q1, by omega, by omega⟩
      · rw [fo x xt xc] at e
        obtain ⟨e', q1, q2⟩ := h.ar x o e m h1 h2
        exact ⟨e', by rw [fo m (fun z => by rw [z, ht.2] at q1; cases q1) (fun z => by rw [z, hc] at q1; cases q1)]; exact q1, q2⟩
  · have lt := rt p mp
    by_cases mc : m = c
    · subst mc
      exact .inr ⟨t, fc, lt⟩
    · by_cases mt : m = t
      · subst mt
        exact .inr ⟨c, ft, by omega⟩
      · rcases h.pd p (List.mem_append_left _ mp) m h1 (by omega) with q | ⟨e, q, le⟩
        · rcases List.mem_append.mp q with q | q
          · exact .inl q
          · simp at q; exact absurd q mt
        · exact .inr ⟨e, by rw [fo m mt mc]; exact q, le⟩
theorem Jh.fin {w : Nat} {f : Nat → Option Nat} {P : List Nat} (h : Jh w w f P) : Ivl f w ∧ (∀ c, okc f c) ∧ ∀ x, w ≤ x → f x = none :=
  ⟨fun c o _ e => h.iv c o e, fun c o e => h.ar c o e, h.hi⟩
end CCNC
set_option Elab.async false
set_option linter.all false
set_option maxRecDepth 100000
set_option maxHeartbeats 1000000
namespace K35.V
open PySem PySem.Spec PyProof.Rows L2 CV
abbrev lh1 : VL → RSU := (sIf (tB (tOrT (tNotT (tVal (eIsi (CC.qTup []) (eVarB 0)))) (tNotT (tVal (eChain gLe gLe (eC (.int 1)) (eB fLen (aCons (eVarB 0) aNil)) (eC (.int 16))))))) (sRet (eC (.bl false))) sNx)
abbrev lb1 : VL → RSU := (sAsg (gNf 2) (vB (eBin gIx (eVarB 0) (eVarB 1))))
abbrev li1 : VL → RSU := (sIf (tB (tOrT (tNotT (tVal (eIsi (CC.qInt []) (eVarB 2)))) (tOrT (tVal (eIsi (CC.qBool []) (eVarB 2))) (tNotT (tVal (eChain gLe gLtB (eC (.int 0)) (eVarB 2) (eB fLen (aCons (eVarB 0) aNil)))))))) (sRet (eC (.bl false))) sNx)
abbrev li2 : VL → RSU := (sIf (tB (tOrT (tVal (eBin gEq (eVarB 2) (eVarB 1))) (tVal (eBin gNe (eBin gIx (eVarB 0) (eVarB 2)) (eVarB 1))))) (sRet (eC (.bl false))) sNx)
abbrev li3 : VL → RSU := (sAsg (gNf 3) (vB (eSl (eVarB 0) (oSo (eBin gAdd (eB fMin2 (aCons (eVarB 1) (aCons (eVarB 2) aNil))) (eC (.int 1)))) (oSo (eB fMax2 (aCons (eVarB 1) (aCons (eVarB 2) aNil)))))))
abbrev li4 : VL → RSU := (sIf (tB (tVal (eBin gInA (eC .non) (eVarB 3)))) (sRet (eC (.bl false))) sNx)
abbrev li5 : VL → RSU := (sPar2 (gNf 4) (gNf 5) (aCons (vB (eB fMin2 (aCons (eVarB 1) (aCons (eVarB 2) aNil)))) (aCons (vB (eB fMax2 (aCons (eVarB 1) (aCons (eVarB 2) aNil)))) aNil)))
abbrev li6 : VL → RSU := (sIf (tB (tVal (eBin gNe (eLc (CC.CTg.nm 6) (iSeq (eVarB 3)) (tAndT (tVal (eIsi (CC.qInt []) (eVarB 6))) (tNotT (tVal (eChain gLtB gLtB (eVarB 4) (eVarB 6) (eVarB 5))))) (eVarB 6)) (eLst aNil)))) (sRet (eC (.bl false))) sNx)
abbrev lit6 : VL → RSU := li6
abbrev lit5 : VL → RSU := sSeq li5 lit6
abbrev lit4 : VL → RSU := sSeq li4 lit5
abbrev lit3 : VL → RSU := sSeq li3 lit4
abbrev lit2 : VL → RSU := sSeq li2 lit3
abbrev lit1 : VL → RSU := sSeq li1 lit2
inductive En where
  | n | i (z : Int) | b (v : Bool) | s | t
  deriving DecidableEq
def En.u : En → U
  | .n => .non
  | .i z => .int z
  | .b v => .bl v
  | .s => .str "0"
  | .t => .tup [.int 0]
def T (xs : List En) : U := .tup (xs.map En.u)
theorem En.nb (e : En) : noB e.u = true := by cases e <;> rfl
theorem En.no (e : En) : noO e.u = true := by cases e <;> rfl
theorem En.bo (e : En) : bor e.u = e.u := by cases e <;> rfl
theorem En.fr (e : En) : frz e.u = e.u := by cases e <;> rfl
theorem En.all (xs : List En) : (xs.map En.u).all noB = true := List.all_eq_true.mpr fun x m => by
  obtain ⟨e, _, rfl⟩ := List.mem_map.mp m
  exact e.nb
theorem T_items (xs : List En) : itemsU (T xs) = some (xs.map En.u) := rfl
theorem T_len (xs : List En) : fLen [T xs] = some (wi xs.length) := by
  have := Q.lenT (xs.map En.u)
  rw [List.length_map] at this
  exact this
theorem T_ix {xs : List En} {c : Nat} {e : En} (h : xs[c]? = some e) : gIx (T xs) (wi c) = some e.u :=
  atI_nat (us := xs.map En.u) (k := c) (by rw [List.getElem?_map, h]; rfl)
def En.d : En → PyData
  | .n => .none
  | .i z => .int z
  | .b v => .bool v
  | .s => .str "0"
  | .t => .tuple [.int 0]
theorem En.dat (e : En) (k : Nat) : datU (k + 2) e.u = some e.d := by cases e <;> rfl
theorem En.dOk2 (e : En) : dOk 2 e.d = true := by
  cases e with
  | b v => cases v <;> rfl
  | s => decide +kernel
  | _ => rfl
theorem En.dats (k : Nat) : ∀ xs : List En, CC.mapO (datU (k + 2)) (xs.map En.u) = some (xs.map En.d)
  | [] => rfl
  | e :: xs => by
    rw [List.map_cons]
    unfold CC.mapO
    rw [e.dat, En.dats k xs]
    rfl
theorem T_dat (xs : List En) : datU 12 (T xs) = some (.tuple (xs.map En.d)) := by
  show (match CC.mapO (datU 11) (xs.map En.u) with | some ds => some (PyData.tuple ds) | none => none) = _
  rw [En.dats 9]
theorem L_dat (z : Fl) (xs : List En) : datU 12 (.lst z (xs.map En.u)) = some (.list (xs.map En.d)) := by
  show (match CC.mapO (datU 11) (xs.map En.u) with | some ds => some (PyData.list ds) | none => none) = _
  rw [En.dats 9]
theorem ok_map (xs : List En) : ∀ d ∈ xs.map En.d, dOk 2 d = true := fun d m => by
  obtain ⟨e, _, rfl⟩ := List.mem_map.mp m
  exact e.dOk2
theorem T_shaped (xs : List En) : SeqAt.shaped (.tuple (xs.map En.d)) = true := shaped_of (dOk_tup (ok_map xs)) (by decide)
theorem L_shaped (xs : List En) : SeqAt.shaped (.list (xs.map En.d)) = true := shaped_of (dOk_list (ok_map xs)) (by decide)
def eqc (c : Nat) : En → Bool
  | .i y => decide (y = (c : Int))
  | .b v => decide (b2i v = (c : Int))
  | _ => false
theorem eqB_c (e : En) (c : Nat) : gEqB e.u (wi c) = some (eqc c e) := by
  cases e with
  | i y => rfl
  | n => rfl
  | b v =>
    cases v with
    | true =>
      show some ((1 : Int) == (c : Int)) = some (decide ((1 : Int) = (c : Int)))
      congr 1
    | false =>
      show some ((0 : Int) == (c : Int)) = some (decide ((0 : Int) = (c : Int)))
      congr 1
  | s =>
    have s1 : SeqAt.shaped (.str "0") = true := by decide +kernel
    show (if SeqAt.shaped (.str "0") && SeqAt.shaped (.int (c : Int)) then some (PyData.eqv (.str "0") (.int (c : Int))) else none) = _
    rw [s1]; rfl
  | t => rfl
theorem ne_c (e : En) (c : Nat) : gNe e.u (wi c) = some (.bl (!eqc c e)) := by unfold gNe; rw [eqB_c]
theorem eq_c (e : En) (c : Nat) : gEq e.u (wi c) = some (.bl (eqc c e)) := by unfold gEq; rw [eqB_c]
theorem ne_nil (xs : List En) : gNe (.lst .o (xs.map En.u)) (.lst .o []) = some (.bl (!decide (xs = []))) := by
  cases xs with
  | nil => rfl
  | cons a l =>
    have e : gEqB (.lst .o ((a :: l).map En.u)) (.lst .o []) = some false := by
      show gEqD _ _ = _
      unfold gEqD
      rw [L_dat]
      have d0 : datU 12 (.lst .o []) = some (.list []) := rfl
      rw [d0]
      dsimp only
      rw [L_shaped]
      rfl
    unfold gNe
    rw [e]; rfl
theorem in_non (xs : List En) : gInA .non (T xs) = some (.bl (xs.any fun e => decide (e = .n))) := by
  unfold gInA
  have g : gDic (T xs) .non = none := rfl
  rw [g]
  dsimp only
  unfold gInB
  rw [T_dat]
  have d0 : datU 12 .non = some .none := rfl
  rw [d0]
  dsimp only
  rw [T_shaped]
  have s0 : SeqAt.shaped .none = true := rfl
  rw [s0]
  simp only [Bool.and_self, if_true]
  congr 2
  rw [List.any_map]
  congr 1
  funext e
  cases e <;> rfl
def ins (xs : List En) (lo hi : Nat) : List En := (xs.drop (lo + 1)).take (hi - (lo + 1))
theorem sl_ins {xs : List En} {lo hi : Nat} (h : lo + 1 ≤ xs.length) (h2 : hi ≤ xs.length) : gSl (T xs) (some ((lo + 1 : Nat) : Int)) (some (hi : Int)) = some (T (ins xs lo hi)) := by
  show some (U.tup (cutU (xs.map En.u) _ _)) = _
  unfold cutU ins T
  rw [HT.sIx_nat, HT.sIx_nat, List.length_map, Nat.min_eq_left h, Nat.min_eq_left h2, List.map_take, List.map_drop]
def isI : En → Bool
  | .i _ => true
  | .b _ => true
  | _ => false
def inb (lo hi : Nat) : En → Bool
  | .i y => decide ((lo : Int) < y) && decide (y < (hi : Int))
  | .b v => decide ((lo : Int) < b2i v) && decide (b2i v < (hi : Int))
  | _ => true
def lb (xs : List En) (c : Nat) : Bool := match xs[c]? with
  | some .n => true
  | some (.i z) => decide (0 ≤ z) && decide (z < (xs.length : Int)) && !decide (z = (c : Int)) && (match xs[z.toNat]? with | some e => eqc c e | none => false) &&
      !((ins xs (min c z.toNat) (max c z.toNat)).any fun e => decide (e = .n)) && decide ((ins xs (min c z.toNat) (max c z.toNat)).filter (fun e => isI e && !inb (min c z.toNat) (max c z.toNat) e) = [])
  | _ => false
def lS (xs : List En) (c : Nat) (x2 x3 x4 x5 : Option U) : VL := [some (T xs), some (wi c), x2, x3, x4, x5, none]
theorem lc_ok (xs ys : List En) (c lo hi : Nat) (e : En) (hl : ys.length ≤ 1000) : (eLc (CC.CTg.nm 6) (iSeq (eVarB 3)) (tAndT (tVal (eIsi (CC.qInt []) (eVarB 6))) (tNotT (tVal (eChain gLtB gLtB (eVarB 4) (eVarB 6) (eVarB 5))))) (eVarB 6)) (lS xs c (some e.u) (some (T ys)) (some (wi lo)) (some (wi hi))) = .ok (.lst .o ((ys.filter fun e => isI e && !inb lo hi e).map En.u)) (lS xs c (some e.u) (some (T ys)) (some (wi lo)) (some (wi hi))) := by
  refine lcA (ct := CC.CTg.nm 6) (enc := En.u) (F := En.u) (w := fun a => [some (T xs), some (wi c), some e.u, some (T ys), some (wi lo), some (wi hi), some a.u]) (p := fun e => isI e && !inb lo hi e) (St.iseq (St.varB (i := 3) (u := T ys) rfl) (T_items ys)) rfl rfl rfl (by omega) fun a _ => ?_
  have v6 : eVarB 6 [some (T xs), some (wi c), some e.u, some (T ys), some (wi lo), some (wi hi), some a.u] = .ok a.u [some (T xs), some (wi c), some e.u, some (T ys), some (wi lo), some (wi hi), some a.u] := by
    have := St.varB (i := 6) (u := a.u) (v := [some (T xs), some (wi c), some e.u, some (T ys), some (wi lo), some (wi hi), some a.u]) rfl
    rw [a.bo] at this; exact this
  refine ⟨rfl, ?_, fun _ => ⟨v6, a.nb⟩, rfl⟩
  have ch : ∀ y : Int, uIB a.u = some y → CV.eChain gLtB gLtB (eVarB 4) (eVarB 6) (eVarB 5) [some (T xs), some (wi c), some e.u, some (T ys), some (wi lo), some (wi hi), some a.u] = .ok (.bl (decide ((lo : Int) < y) && decide (y < (hi : Int)))) [some (T xs), some (wi c), some e.u, some (T ys), some (wi lo), some (wi hi), some a.u] := fun y hy => by
    have l1 : gLtB (wi lo) a.u = some (.bl (decide ((lo : Int) < y))) := by unfold gLtB; rw [hy]; rfl
    have l2 : gLtB a.u (wi hi) = some (.bl (decide (y < (hi : Int)))) := by unfold gLtB; rw [hy]; rfl
    by_cases q : (lo : Int) < y
    · rw [decide_eq_true q] at l1 ⊢
      rw [Bool.true_and]
      exact St.chainT (St.varB (i := 4) (u := wi lo) rfl) v6 l1 (St.varB (i := 5) (u := wi hi) rfl) l2
    · rw [decide_eq_false q] at l1 ⊢
      exact St.chainF (St.varB (i := 4) (u := wi lo) rfl) v6 l1
  have is0 : ∀ b, (CC.qInt []) (tyU a.u) = some b → b = isI a → CV.tVal (eIsi (CC.qInt []) (eVarB 6)) [some (T xs), some (wi c), some e.u, some (T ys), some (wi lo), some (wi hi), some a.u] = .ok (isI a) [some (T xs), some (wi c), some e.u, some (T ys), some (wi lo), some (wi hi), some a.u] := fun b hb e => by
    subst e; exact St.tv (St.isi v6 hb)
  cases a with
  | i y => exact St.tAndTT (is0 true rfl rfl) (St.notT (St.tv (ch y rfl)))
  | b v => exact St.tAndTT (is0 true rfl rfl) (St.notT (St.tv (ch (b2i v) rfl)))
  | n => exact St.tAndTF (is0 false rfl rfl)
  | s => exact St.tAndTF (is0 false rfl rfl)
  | t => exact St.tAndTF (is0 false rfl rfl)
theorem ins_len (xs : List En) (lo hi : Nat) : (ins xs lo hi).length ≤ xs.length := by unfold ins; simp; omega
theorem lb_ok {xs : List En} {c : Nat} {e : En} (hl : xs.length ≤ 1000) (h : xs[c]? = some e) (x2 x3 x4 x5 : Option U) :
    (lb xs c = true → ∃ y2 y3 y4 y5, v__law_is_half_b1 (lS xs c x2 x3 x4 x5) = .nx (lS xs c y2 y3 y4 y5)) ∧ (lb xs c = false → ∃ v, v__law_is_half_b1 (lS xs c x2 x3 x4 x5) = .ret (.bl false) v) := by
  have hc : c < xs.length := (List.getElem?_eq_some_iff.mp h).1
  have s1 : lb1 (lS xs c x2 x3 x4 x5) = .nx (lS xs c (some e.u) x3 x4 x5) := by
    have := St.asgF (i := 2) (u := e.u) (St.vb (St.bin (x := T xs) (y := wi c) (v := lS xs c x2 x3 x4 x5) (St.varB (i := 0) (u := T xs) rfl) (St.varB (i := 1) (u := wi c) rfl) (T_ix h)) e.nb)
    rw [e.fr] at this; exact this
  have v2 : ∀ x3 x4 x5, eVarB 2 (lS xs c (some e.u) x3 x4 x5) = .ok e.u (lS xs c (some e.u) x3 x4 x5) := fun x3 x4 x5 => by
    have := St.varB (i := 2) (u := e.u) (v := lS xs c (some e.u) x3 x4 x5) rfl
    rw [e.bo] at this; exact this
  have v1 : ∀ x2 x3 x4 x5, eVarB 1 (lS xs c x2 x3 x4 x5) = .ok (wi c) (lS xs c x2 x3 x4 x5) := fun _ _ _ _ => St.varB (i := 1) (u := wi c) rfl
  have v0 : ∀ x2 x3 x4 x5, eVarB 0 (lS xs c x2 x3 x4 x5) = .ok (T xs) (lS xs c x2 x3 x4 x5) := fun _ _ _ _ => St.varB (i := 0) (u := T xs) rfl
  have odd : (∀ z, e ≠ .i z) → e ≠ .n → lb xs c = false ∧ ∃ v, v__law_is_half_b1 (lS xs c x2 x3 x4 x5) = .ret (.bl false) v := fun ni nn => by
    have g : gIsN e.u .non = some (.bl true) := by cases e <;> first | rfl | exact absurd rfl nn
    have r1 : li1 (lS xs c (some e.u) x3 x4 x5) = .ret (.bl false) (lS xs c (some e.u) x3 x4 x5) := by
      refine (St.ift (v1 := lS xs c (some e.u) x3 x4 x5) (St.tb (v1 := lS xs c (some e.u) x3 x4 x5) ?_)).trans (St.ret St.c rfl)
      cases e with
      | i z => exact absurd rfl (ni z)
      | n => exact absurd rfl nn
      | b v => exact (St.orTF (St.notT (b := true) (St.tv (St.isi (v2 _ _ _) rfl)))).trans (St.tOrTT (St.tv (St.isi (v2 _ _ _) rfl)))
      | s => exact St.tOrTT (St.notT (b := false) (St.tv (St.isi (v2 _ _ _) rfl)))
      | t => exact St.tOrTT (St.notT (b := false) (St.tv (St.isi (v2 _ _ _) rfl)))
    refine ⟨?_, _, ((St.nx s1).trans ((St.ift (v1 := lS xs c (some e.u) x3 x4 x5) (St.tb (St.tv (St.bin (v2 _ _ _) St.c g)))).trans (St.seqR r1)))⟩
    unfold lb
    rw [h]
    cases e <;> first | rfl | exact absurd rfl (ni _) | exact absurd rfl nn
  cases e with
  | n =>
    have r : v__law_is_half_b1 (lS xs c x2 x3 x4 x5) = .nx (lS xs c (some .non) x3 x4 x5) :=
      (St.nx s1).trans ((St.iff (v1 := lS xs c (some .non) x3 x4 x5) (St.tb (St.tv (b := false) (St.bin (v2 _ _ _) St.c rfl)))).trans rfl)
    have l : lb xs c = true := by unfold lb; rw [h]
    exact ⟨fun _ => ⟨_, _, _, _, r⟩, fun z => by rw [l] at z; cases z⟩
  | b v => obtain ⟨l, r⟩ := odd nofun nofun; exact ⟨fun z => by rw [l] at z; (cases z), fun _ => r⟩
  | s => obtain ⟨l, r⟩ := odd nofun nofun; exact ⟨fun z => by rw [l] at z; (cases z), fun _ => r⟩
  | t => obtain ⟨l, r⟩ := odd nofun nofun; exact ⟨fun z => by rw [l] at z; (cases z), fun _ => r⟩
  | i z =>
    have pre : ∀ {r}, lit1 (lS xs c (some (.int z)) x3 x4 x5) = r → v__law_is_half_b1 (lS xs c x2 x3 x4 x5) = r := fun q =>
      (St.nx s1).trans ((St.ift (v1 := lS xs c (some (.int z)) x3 x4 x5) (St.tb (St.tv (b := true) (St.bin (v2 _ _ _) St.c rfl)))).trans q)
    have t1 : ∀ bb, CV.eChain gLe gLtB (eC (.int 0)) (eVarB 2) (CV.eB fLen (CV.aCons (eVarB 0) CV.aNil)) (lS xs c (some (.int z)) x3 x4 x5) = .ok (.bl bb) (lS xs c (some (.int z)) x3 x4 x5) → CV.tB (tOrT (tNotT (tVal (eIsi (CC.qInt []) (eVarB 2)))) (tOrT (tVal (eIsi (CC.qBool []) (eVarB 2))) (tNotT (tVal (CV.eChain gLe gLtB (eC (.int 0)) (eVarB 2) (CV.eB fLen (CV.aCons (eVarB 0) CV.aNil))))))) (lS xs c (some (.int z)) x3 x4 x5) = .ok (!bb) (lS xs c (some (.int z)) x3 x4 x5) := fun bb q =>
      St.tb (v1 := lS xs c (some (.int z)) x3 x4 x5) (St.tOrTF (St.notT (b := true) (St.tv (St.isi (v2 _ _ _) rfl))) (St.tOrTF (St.tv (St.isi (v2 _ _ _) rfl)) (St.notT (St.tv q))))
    by_cases hz : 0 ≤ z ∧ z < (xs.length : Int)
    · obtain ⟨j, rfl⟩ := Int.eq_ofNat_of_zero_le hz.1
      have hj : j < xs.length := by omega
      obtain ⟨e', he'⟩ : ∃ e', xs[j]? = some e' := ⟨xs[j], List.getElem?_eq_getElem hj⟩
      have lbe : lb xs c = (!decide (j = c) && eqc c e' && !((ins xs (min c j) (max c j)).any fun e => decide (e = .n)) && decide ((ins xs (min c j) (max c j)).filter (fun e => isI e && !inb (min c j) (max c j) e) = [])) := by
        unfold lb
        rw [h]
        dsimp only
        rw [decide_eq_true hz.1, decide_eq_true hz.2, Int.toNat_natCast, he']
        have : decide ((j : Int) = (c : Int)) = decide (j = c) := decide_eq_decide.mpr (by omega)
        rw [this]
        rfl
      obtain ⟨Y, hY⟩ : ∃ Y, Y = ins xs (min c j) (max c j) := ⟨_, rfl⟩
      rw [← hY] at lbe
      have r1 : li1 (lS xs c (some (wi j)) x3 x4 x5) = .nx (lS xs c (some (wi j)) x3 x4 x5) := by
        refine (St.iff (v1 := lS xs c (some (wi j)) x3 x4 x5) (t1 true (St.chainT St.c (v2 _ _ _) ?_ (St.eb1 (v0 _ _ _ _) (T_len xs)) ?_))).trans rfl
        · show some (U.bl (decide ((0 : Int) ≤ (j : Int)))) = _
          rw [decide_eq_true (by omega)]
        · show some (U.bl (decide ((j : Int) < (xs.length : Int)))) = _
          rw [decide_eq_true hz.2]
      have r2 : ∀ bb, (decide (j = c) || !eqc c e') = bb → CV.tB (tOrT (tVal (eBin gEq (eVarB 2) (eVarB 1))) (tVal (eBin gNe (eBin gIx (eVarB 0) (eVarB 2)) (eVarB 1)))) (lS xs c (some (wi j)) x3 x4 x5) = .ok bb (lS xs c (some (wi j)) x3 x4 x5) := fun bb hb => by
        refine St.tb (v1 := lS xs c (some (wi j)) x3 x4 x5) ?_
        have g1 := Q.eq j c
        by_cases q : j = c
        · rw [decide_eq_true q] at hb g1
          rw [← hb, Bool.true_or]
          exact St.tOrTT (St.tv (St.bin (v2 _ _ _) (v1 _ _ _ _) g1))
        · rw [decide_eq_false q] at hb g1
          rw [← hb, Bool.false_or]
          exact St.tOrTF (St.tv (St.bin (v2 _ _ _) (v1 _ _ _ _) g1)) (St.tv (St.bin (St.bin (v0 _ _ _ _) (v2 _ _ _) (T_ix he')) (v1 _ _ _ _) (ne_c e' c)))
      by_cases q1 : (decide (j = c) || !eqc c e') = true
      · have l : lb xs c = false := by
          rw [lbe]
          rw [Bool.or_eq_true] at q1
          rcases q1 with q | q
          · rw [q]; rfl
          · have : eqc c e' = false := by simpa using q
            rw [this]; simp
        refine ⟨fun z => by rw [l] at z; (cases z), fun _ => ⟨_, pre ((St.nx r1).trans (St.seqR ((St.ift (v1 := lS xs c (some (wi j)) x3 x4 x5) (r2 true q1)).trans (St.ret St.c rfl))))⟩⟩
      · have q1 : (decide (j = c) || !eqc c e') = false := by simpa using q1
        have e2 : li2 (lS xs c (some (wi j)) x3 x4 x5) = .nx (lS xs c (some (wi j)) x3 x4 x5) := (St.iff (v1 := lS xs c (some (wi j)) x3 x4 x5) (r2 false q1)).trans rfl
        have jc : decide (j = c) = false ∧ eqc c e' = true := by
          cases h1 : decide (j = c) <;> cases h2 : eqc c e' <;> simp [h1, h2] at q1 ⊢
        have mn : min c j + 1 ≤ xs.length := by omega
        have mx : max c j ≤ xs.length := by omega
        have e3 : li3 (lS xs c (some (wi j)) x3 x4 x5) = .nx (lS xs c (some (wi j)) (some (T Y)) x4 x5) := by
          have a1 : CV.eB fMin2 (CV.aCons (eVarB 1) (CV.aCons (eVarB 2) CV.aNil)) (lS xs c (some (wi j)) x3 x4 x5) = .ok (wi (min c j)) (lS xs c (some (wi j)) x3 x4 x5) := St.eb (St.cons (v1 _ _ _ _) (St.cons (v2 _ _ _) St.nil)) (Q.min2 c j)
          have a2 : CV.eB fMax2 (CV.aCons (eVarB 1) (CV.aCons (eVarB 2) CV.aNil)) (lS xs c (some (wi j)) x3 x4 x5) = .ok (wi (max c j)) (lS xs c (some (wi j)) x3 x4 x5) := St.eb (St.cons (v1 _ _ _ _) (St.cons (v2 _ _ _) St.nil)) (Q.max2 c j)
          have sl := sl_ins (xs := xs) mn mx
          rw [← hY] at sl
          exact St.asgF (i := 3) (u := T Y) (St.vb (St.sl (v0 _ _ _ _) (St.so (St.bin a1 St.c (Q.add (min c j) 1))) (St.so a2) sl) rfl)
        have v3 : ∀ x4 x5, eVarB 3 (lS xs c (some (wi j)) (some (T Y)) x4 x5) = .ok (T Y) (lS xs c (some (wi j)) (some (T Y)) x4 x5) := fun _ _ => St.varB (i := 3) (u := T Y) rfl
        have t4 : CV.tB (tVal (eBin gInA (eC .non) (eVarB 3))) (lS xs c (some (wi j)) (some (T Y)) x4 x5) = .ok (Y.any fun e => decide (e = .n)) (lS xs c (some (wi j)) (some (T Y)) x4 x5) := St.tb (St.tv (St.bin St.c (v3 _ _) (in_non Y)))
        cases q4 : (Y.any fun e => decide (e = .n)) with
        | true =>
          rw [q4] at t4
          have l : lb xs c = false := by rw [lbe, q4]; simp
          exact ⟨fun z => by rw [l] at z; (cases z), fun _ => ⟨_, pre ((St.nx r1).trans ((St.nx e2).trans ((St.nx e3).trans (St.seqR ((St.ift t4).trans (St.ret St.c rfl))))))⟩⟩
        | false =>
          rw [q4] at t4
          have e4 : li4 (lS xs c (some (wi j)) (some (T Y)) x4 x5) = .nx (lS xs c (some (wi j)) (some (T Y)) x4 x5) := (St.iff t4).trans rfl
          have e5 : li5 (lS xs c (some (wi j)) (some (T Y)) x4 x5) = .nx (lS xs c (some (wi j)) (some (T Y)) (some (wi (min c j))) (some (wi (max c j)))) := by
            have a1 : CV.eB fMin2 (CV.aCons (eVarB 1) (CV.aCons (eVarB 2) CV.aNil)) (lS xs c (some (wi j)) (some (T Y)) x4 x5) = .ok (wi (min c j)) (lS xs c (some (wi j)) (some (T Y)) x4 x5) := St.eb (St.cons (v1 _ _ _ _) (St.cons (v2 _ _ _) St.nil)) (Q.min2 c j)
            have a2 : CV.eB fMax2 (CV.aCons (eVarB 1) (CV.aCons (eVarB 2) CV.aNil)) (lS xs c (some (wi j)) (some (T Y)) x4 x5) = .ok (wi (max c j)) (lS xs c (some (wi j)) (some (T Y)) x4 x5) := St.eb (St.cons (v1 _ _ _ _) (St.cons (v2 _ _ _) St.nil)) (Q.max2 c j)
            exact St.par2 (x := wi (min c j)) (y := wi (max c j)) (v1 := lS xs c (some (wi j)) (some (T Y)) x4 x5) (v2 := lS xs c (some (wi j)) (some (T Y)) (some (wi (min c j))) x5) (St.cons (St.vb a1 rfl) (St.cons (St.vb a2 rfl) St.nil)) rfl rfl
          have t6 : CV.tB (tVal (eBin gNe (eLc (CC.CTg.nm 6) (iSeq (eVarB 3)) (tAndT (tVal (eIsi (CC.qInt []) (eVarB 6))) (tNotT (tVal (eChain gLtB gLtB (eVarB 4) (eVarB 6) (eVarB 5))))) (eVarB 6)) (eLst CV.aNil))) (lS xs c (some (wi j)) (some (T Y)) (some (wi (min c j))) (some (wi (max c j)))) = .ok (!decide (Y.filter (fun e => isI e && !inb (min c j) (max c j) e) = [])) (lS xs c (some (wi j)) (some (T Y)) (some (wi (min c j))) (some (wi (max c j)))) :=
            St.tb (St.tv (St.bin (y := .lst .o []) (lc_ok xs Y c (min c j) (max c j) (.i j) (by rw [hY]; have := ins_len xs (min c j) (max c j); omega)) (St.lst (us := []) St.nil (Nat.zero_le _) rfl) (ne_nil _)))
          have run : ∀ {r}, li6 (lS xs c (some (wi j)) (some (T Y)) (some (wi (min c j))) (some (wi (max c j)))) = r → v__law_is_half_b1 (lS xs c x2 x3 x4 x5) = r := fun q =>
            pre ((St.nx r1).trans ((St.nx e2).trans ((St.nx e3).trans ((St.nx e4).trans ((St.nx e5).trans q)))))
          rw [jc.1, jc.2, q4] at lbe
          by_cases q6 : Y.filter (fun e => isI e && !inb (min c j) (max c j) e) = []
          · rw [decide_eq_true q6] at lbe t6
            exact ⟨fun _ => ⟨_, _, _, _, run ((St.iff t6).trans rfl)⟩, fun z => by rw [lbe] at z; cases z⟩
          · rw [decide_eq_false q6] at lbe t6
            exact ⟨fun z => by rw [lbe] at z; (cases z), fun _ => ⟨_, run ((St.ift t6).trans (St.ret St.c rfl))⟩⟩
    · have l : lb xs c = false := by
        unfold lb
        rw [h]
        dsimp only
        have : (decide (0 ≤ z) && decide (z < (xs.length : Int))) = false := by
          rw [← Bool.decide_and]
          exact decide_eq_false hz
        rw [this]
        rfl
      refine ⟨fun z => by rw [l] at z; (cases z), fun _ => ⟨_, pre (St.seqR ((St.ift (v1 := lS xs c (some (.int z)) x3 x4 x5) (t1 false ?_)).trans (St.ret St.c rfl)))⟩⟩
      by_cases z0 : 0 ≤ z
      · refine St.chainT St.c (v2 _ _ _) ?_ (St.eb1 (v0 _ _ _ _) (T_len xs)) ?_
        · show some (U.bl (decide (0 ≤ z))) = _
          rw [decide_eq_true z0]
        · show some (U.bl (decide (z < (xs.length : Int)))) = _
          rw [decide_eq_false (by omega)]
      · refine St.chainF St.c (v2 _ _ _) ?_
        show some (U.bl (decide (0 ≤ z))) = _
        rw [decide_eq_false z0]
theorem lh_loop {xs : List En} (hl : xs.length ≤ 1000) : ∀ (cs : List Nat), (∀ c ∈ cs, c < xs.length) → ∀ (x1 x2 x3 x4 x5 : Option U),
    (cs.all (lb xs) = true → ∃ v, forL (gNf 1) v__law_is_half_b1 (cs.map wi) [some (T xs), x1, x2, x3, x4, x5, none] = .nx v) ∧ (cs.all (lb xs) = false → ∃ v, forL (gNf 1) v__law_is_half_b1 (cs.map wi) [some (T xs), x1, x2, x3, x4, x5, none] = .ret (.bl false) v)
  | [], _, _, _, _, _, _ => ⟨fun _ => ⟨_, rfl⟩, fun z => by cases z⟩
  | c :: cs, h, x1, x2, x3, x4, x5 => by
    have hc := h c (List.mem_cons_self ..)
    obtain ⟨a, b⟩ := lb_ok hl (List.getElem?_eq_getElem hc) x2 x3 x4 x5
    rw [List.all_cons]
    cases q : lb xs c with
    | true =>
      obtain ⟨y2, y3, y4, y5, e⟩ := a q
      obtain ⟨c1, c2⟩ := lh_loop hl cs (fun x m => h x (List.mem_cons_of_mem _ m)) (some (wi c)) y2 y3 y4 y5
      rw [Bool.true_and, List.map_cons, St.for_cons (v1 := lS xs c x2 x3 x4 x5) rfl e]
      exact ⟨c1, c2⟩
    | false =>
      obtain ⟨v, e⟩ := b q
      exact ⟨fun z => (by cases z), fun _ => ⟨v, St.for_ret (v1 := lS xs c x2 x3 x4 x5) rfl e⟩⟩
def lawB (xs : List En) : Bool := decide (1 ≤ xs.length ∧ xs.length ≤ 16) && (List.range xs.length).all (lb xs)
theorem law_half_ok {xs : List En} (hl : xs.length ≤ 1000) : u__law_is_half [T xs] = .ok (.bl (lawB xs)) .non := by
  have v0 : eVarB 0 [some (T xs), none, none, none, none, none, none] = .ok (T xs) [some (T xs), none, none, none, none, none, none] := St.varB (i := 0) (u := T xs) rfl
  have t1 : CV.tB (tOrT (tNotT (tVal (eIsi (CC.qTup []) (eVarB 0)))) (tNotT (tVal (CV.eChain gLe gLe (eC (.int 1)) (CV.eB fLen (CV.aCons (eVarB 0) CV.aNil)) (eC (.int 16)))))) [some (T xs), none, none, none, none, none, none] = .ok (!decide (1 ≤ xs.length ∧ xs.length ≤ 16)) [some (T xs), none, none, none, none, none, none] := by
    refine St.tb (v1 := [some (T xs), none, none, none, none, none, none]) (St.tOrTF (St.notT (b := true) (St.tv (St.isi v0 rfl))) (St.notT (St.tv ?_)))
    have g1 : gLe (.int 1) (wi xs.length) = some (.bl (decide (1 ≤ xs.length))) := Q.le 1 xs.length
    have g2 : gLe (wi xs.length) (.int 16) = some (.bl (decide (xs.length ≤ 16))) := Q.le xs.length 16
    rw [Bool.decide_and]
    by_cases q : 1 ≤ xs.length
    · rw [decide_eq_true q] at g1 ⊢
      rw [Bool.true_and]
      exact St.chainT St.c (St.eb1 v0 (T_len xs)) g1 St.c g2
    · rw [decide_eq_false q] at g1 ⊢
      exact St.chainF St.c (St.eb1 v0 (T_len xs)) g1
  unfold lawB
  by_cases q : 1 ≤ xs.length ∧ xs.length ≤ 16
  · rw [decide_eq_true q] at t1 ⊢
    rw [Bool.true_and]
    have s1 : lh1 [some (T xs), none, none, none, none, none, none] = .nx [some (T xs), none, none, none, none, none, none] := (St.iff t1).trans rfl
    obtain ⟨a, b⟩ := lh_loop hl (List.range xs.length) (fun c m => List.mem_range.mp m) none none none none none
    have it : CV.iRange1 (CV.vB (CV.eB fLen (CV.aCons (eVarB 0) CV.aNil))) [some (T xs), none, none, none, none, none, none] = .ok ((List.range xs.length).map wi) [some (T xs), none, none, none, none, none, none] := by
      rw [List.range_eq_range']
      exact St.rg1W (St.vb (St.eb1 v0 (T_len xs)) rfl) (by omega)
    cases r : (List.range xs.length).all (lb xs) with
    | true =>
      obtain ⟨v, e⟩ := a r
      exact St.fnV_ret (v := v) rfl rfl ((St.nx s1).trans ((St.nx ((St.sfor it).trans e)).trans (St.ret St.c rfl)))
    | false =>
      obtain ⟨v, e⟩ := b r
      exact St.fnV_ret (v := v) rfl rfl ((St.nx s1).trans (St.seqR ((St.sfor it).trans e)))
  · rw [decide_eq_false q] at t1 ⊢
    exact St.fnV_ret rfl rfl (St.seqR ((St.ift t1).trans (St.ret St.c rfl)))
end K35.V
set_option Elab.async false
set_option linter.all false
set_option maxRecDepth 100000
set_option maxHeartbeats 1000000
namespace K35.V
open PySem PySem.Spec PyProof.Rows L2 CV
abbrev ih1 : VL → RSU := (sIf (tB (tOrT (tNotT (tVal (eIsi (CC.qTup []) (eVarB 0)))) (tNotT (tVal (eCall u_is_columns [] (aCons (eB fLen (aCons (eVarB 0) aNil)) aNil)))))) (sRet (eC (.bl false))) sNx)
abbrev ih2 : VL → RSU := (sIf (tB (tNotT (tVal (eB fAll (aCons (eLc (CC.CTg.nm 1) (iSeq (eVarB 0)) tTrue (eOrV (eBin gIs (eVarB 1) (eC .non)) (eAndV (eCall u_is_integer [(.int 0)] (aCons (eVarB 1) aNil)) (eBin gLt (eVarB 1) (eB fLen (aCons (eVarB 0) aNil)))))) aNil))))) (sRet (eC (.bl false))) sNx)
abbrev ih3 : VL → RSU := (sIf (tB (tNotT (tVal (eB fAll (aCons (eLc (CC.CTg.pr 2 1) (iEnm (eVarB 0)) tTrue (eOrV (eBin gIs (eVarB 1) (eC .non)) (eChain gEq gNe (eBin gIx (eVarB 0) (eVarB 1)) (eVarB 2) (eVarB 1)))) aNil))))) (sRet (eC (.bl false))) sNx)
abbrev ip1 : VL → RSU := (sAsg (gNm 1) (vB (eLst aNil)))
theorem isint_e (e : En) : u_is_integer [e.u, .int 0] = .ok (.bl (match e with | .i z => decide (0 ≤ z) | _ => false)) .non := by
  have v0 : eVarB 0 [some e.u, some (.int 0)] = .ok e.u [some e.u, some (.int 0)] := by
    have := St.varB (i := 0) (u := e.u) (v := [some e.u, some (.int 0)]) rfl
    rw [e.bo] at this; exact this
  have fin : ∀ b, eAndV (eIsi (CC.qInt []) (eVarB 0)) (eAndV (eNotV (eIsi (CC.qBool []) (eVarB 0))) (eBin gGe (eVarB 0) (eVarB 1))) [some e.u, some (.int 0)] = .ok (.bl b) [some e.u, some (.int 0)] → u_is_integer [e.u, .int 0] = .ok (.bl b) .non := fun b h =>
    St.fnV_ret (v := [some e.u, some (.int 0)]) rfl rfl (St.ret (St.vb h rfl) rfl)
  cases e with
  | i z =>
    refine fin _ ((St.andT (St.isi v0 rfl)).trans ((St.andT (St.not (b := false) (St.isi v0 rfl))).trans (St.bin v0 (St.varB (i := 1) (u := .int 0) rfl) rfl)))
  | b v => exact fin _ ((St.andT (St.isi v0 rfl)).trans (St.andF (St.not (b := true) (St.isi v0 rfl))))
  | n => exact fin _ (St.andF (St.isi v0 rfl))
  | s => exact fin _ (St.andF (St.isi v0 rfl))
  | t => exact fin _ (St.andF (St.isi v0 rfl))
theorem iscols_any (n : Nat) : u_is_columns [wi n] = .ok (.bl (decide (1 ≤ n ∧ n ≤ 16))) .non := by
  have v0 : eVarB 0 [some (wi n)] = .ok (wi n) [some (wi n)] := St.varB (i := 0) (u := wi n) rfl
  have i1 : u_is_integer [wi n, .int 1] = .ok (.bl (decide (1 ≤ n))) .non := by
    have w0 : eVarB 0 [some (wi n), some (.int 1)] = .ok (wi n) [some (wi n), some (.int 1)] := St.varB (i := 0) (u := wi n) rfl
    have g : gGe (wi n) (.int 1) = some (.bl (decide (1 ≤ n))) := Q.ge n 1
    exact St.fnV_ret (v := [some (wi n), some (.int 1)]) rfl rfl (St.ret (St.vb ((St.andT (St.isi w0 rfl)).trans ((St.andT (St.not (b := false) (St.isi w0 rfl))).trans (St.bin w0 (St.varB (i := 1) (u := .int 1) rfl) g))) rfl) rfl)
  have c1 : CV.eCall u_is_integer [] (CV.aCons (eVarB 0) (CV.aCons (eC (.int 1)) CV.aNil)) [some (wi n)] = .ok (.bl (decide (1 ≤ n))) [some (wi n)] := St.call (St.cons v0 (St.cons St.c St.nil)) i1
  have g2 : gLe (wi n) (.int 16) = some (.bl (decide (n ≤ 16))) := Q.le n 16
  rw [Bool.decide_and]
  by_cases q : 1 ≤ n
  · rw [decide_eq_true q] at c1 ⊢
    rw [Bool.true_and]
    exact St.fnV_ret (v := [some (wi n)]) rfl rfl (St.ret (St.vb ((St.andT c1).trans (St.bin v0 St.c g2)) rfl) rfl)
  · rw [decide_eq_false q] at c1 ⊢
    exact St.fnV_ret (v := [some (wi n)]) rfl rfl (St.ret (St.vb (St.andF c1) rfl) rfl)
theorem all_bls {α : Type} (p : α → Bool) : ∀ l : List α, isBlsU (l.map fun a => .bl (p a)) = some (l.map p)
  | [] => rfl
  | a :: l => by
    rw [List.map_cons]
    unfold isBlsU
    rw [all_bls p l]; rfl
theorem all_ok {α : Type} (p : α → Bool) (l : List α) : fAll [.lst .o (l.map fun a => .bl (p a))] = some (.bl (l.all p)) := by
  show (match isBlsU (l.map fun a => .bl (p a)) with | some ns => some (U.bl (ns.all id)) | none => none) = _
  rw [all_bls]
  dsimp only
  rw [List.all_map]; rfl
def a2 (n : Nat) : En → Bool
  | .n => true
  | .i z => decide (0 ≤ z) && decide (z < (n : Int))
  | _ => false
def hx (xs : List En) (x : Nat) : En := xs.getD x .n
def hf (xs : List En) (x : Nat) : Option Nat := match hx xs x with
  | .i z => some z.toNat
  | _ => none
def a3 (f : Nat → Option Nat) (c : Nat) : Bool := match f c with
  | none => true
  | some o => decide (f o = some c) && !decide (c = o)
theorem hx_get {xs : List En} {x : Nat} (h : x < xs.length) : xs[x]? = some (hx xs x) := by
  unfold hx
  rw [List.getD_eq_getElem?_getD, List.getElem?_eq_getElem h]; rfl
theorem enU_range (h : Nat → U) (m : Nat) : ∀ a, enU a ((List.range' a m).map h) = (List.range' a m).map fun x => .tup [wi x, h x] := by
  induction m with
  | zero => intro a; rfl
  | succ m ih =>
    intro a
    rw [List.range'_succ, List.map_cons, List.map_cons, ← ih (a + 1)]
    rfl
theorem xs_eq (xs : List En) : xs.map En.u = (List.range' 0 xs.length).map fun x => (hx xs x).u := by
  apply List.ext_getElem
  · simp
  · intro i h1 h2
    have h : i < xs.length := by simpa using h1
    simp only [List.getElem_map, List.getElem_range', Nat.zero_add, Nat.one_mul]
    congr 1
    have := hx_get h
    rw [List.getElem?_eq_getElem h] at this
    exact Option.some.inj this
theorem en_ok (xs : List En) : enU 0 (xs.map En.u) = (List.range' 0 xs.length).map fun x => .tup [wi x, (hx xs x).u] := by
  rw [xs_eq, enU_range]
theorem a2_ok {xs : List En} (h : xs.all (a2 xs.length) = true) {x : Nat} (hx' : x < xs.length) : (hf xs x = none ∧ hx xs x = .n) ∨ ∃ o, hf xs x = some o ∧ hx xs x = .i (o : Int) ∧ o < xs.length := by
  have m : hx xs x ∈ xs := List.mem_of_getElem? (hx_get hx')
  have := List.all_eq_true.mp h _ m
  unfold hf
  cases e : hx xs x with
  | n => exact .inl ⟨rfl, rfl⟩
  | i z =>
    rw [e] at this
    unfold a2 at this
    rw [Bool.and_eq_true] at this
    have h1 := of_decide_eq_true this.1
    have h2 := of_decide_eq_true this.2
    obtain ⟨j, rfl⟩ := Int.eq_ofNat_of_zero_le h1
    exact .inr ⟨j, by simp, rfl, by omega⟩
  | b v => rw [e] at this; cases this
  | s => rw [e] at this; cases this
  | t => rw [e] at this; cases this
theorem eqc_f {xs : List En} (h : xs.all (a2 xs.length) = true) {x : Nat} (hx' : x < xs.length) (c : Nat) : eqc c (hx xs x) = decide (hf xs x = some c) := by
  rcases a2_ok h hx' with ⟨e1, e2⟩ | ⟨o, e1, e2, _⟩
  · rw [e1, e2]; rfl
  · rw [e1, e2]
    show decide ((o : Int) = (c : Int)) = _
    exact decide_eq_decide.mpr (by rw [Option.some.injEq]; omega)
def h0 (xs : List En) : VL := [some (T xs), none, none]
theorem c2_ok {xs : List En} (hl : xs.length ≤ 1000) : (eLc (CC.CTg.nm 1) (iSeq (eVarB 0)) tTrue (eOrV (eBin gIs (eVarB 1) (eC .non)) (eAndV (eCall u_is_integer [(.int 0)] (aCons (eVarB 1) aNil)) (eBin gLt (eVarB 1) (eB fLen (aCons (eVarB 0) aNil)))))) (h0 xs) = .ok (.lst .o (xs.map fun e => .bl (a2 xs.length e))) (h0 xs) := by
  refine lcM (ct := CC.CTg.nm 1) (enc := En.u) (F := fun e => .bl (a2 xs.length e)) (w := fun e => [some (T xs), some e.u, none]) (St.iseq (St.varB (i := 0) (u := T xs) rfl) (T_items xs)) rfl rfl rfl (by omega) fun e _ => ⟨rfl, ⟨?_, rfl⟩, rfl⟩
  have v1 : eVarB 1 [some (T xs), some e.u, none] = .ok e.u [some (T xs), some e.u, none] := by
    have := St.varB (i := 1) (u := e.u) (v := [some (T xs), some e.u, none]) rfl
    rw [e.bo] at this; exact this
  have cl := St.call (F := u_is_integer) (ds := [(.int 0)]) (us := [e.u]) (St.cons v1 St.nil) (isint_e e)
  have ln : CV.eB fLen (CV.aCons (eVarB 0) CV.aNil) [some (T xs), some e.u, none] = .ok (wi xs.length) [some (T xs), some e.u, none] := St.eb1 (St.varB (i := 0) (u := T xs) rfl) (T_len xs)
  cases e with
  | n => exact St.orVT (St.bin v1 St.c rfl)
  | i z =>
    refine St.orVF (St.bin (z := .bl false) v1 St.c rfl) ?_
    dsimp only at cl
    unfold a2
    dsimp only
    by_cases q : 0 ≤ z
    · rw [decide_eq_true q] at cl ⊢
      rw [Bool.true_and]
      exact (St.andT cl).trans (St.bin v1 ln rfl)
    · rw [decide_eq_false q] at cl ⊢
      exact St.andF cl
  | b v => exact St.orVF (St.bin (z := .bl false) v1 St.c rfl) (St.andF cl)
  | s => exact St.orVF (St.bin (z := .bl false) v1 St.c rfl) (St.andF cl)
  | t => exact St.orVF (St.bin (z := .bl false) v1 St.c rfl) (St.andF cl)
theorem c3_ok {xs : List En} (hl : xs.length ≤ 1000) (h2 : xs.all (a2 xs.length) = true) : (eLc (CC.CTg.pr 2 1) (iEnm (eVarB 0)) tTrue (eOrV (eBin gIs (eVarB 1) (eC .non)) (eChain gEq gNe (eBin gIx (eVarB 0) (eVarB 1)) (eVarB 2) (eVarB 1)))) (h0 xs) = .ok (.lst .o ((List.range' 0 xs.length).map fun c => .bl (a3 (hf xs) c))) (h0 xs) := by
  refine lcM (ct := CC.CTg.pr 2 1) (enc := fun x => .tup [wi x, (hx xs x).u]) (F := fun c => .bl (a3 (hf xs) c)) (w := fun x => [some (T xs), some (hx xs x).u, some (wi x)]) ?_ rfl rfl rfl (by simp; omega) fun c m => ?_
  · rw [← en_ok]
    exact St.ienm (St.varB (i := 0) (u := T xs) rfl) (T_items xs) (En.all xs)
  · have hc : c < xs.length := by simpa using m
    have v1 : eVarB 1 [some (T xs), some (hx xs c).u, some (wi c)] = .ok (hx xs c).u [some (T xs), some (hx xs c).u, some (wi c)] := by
      have := St.varB (i := 1) (u := (hx xs c).u) (v := [some (T xs), some (hx xs c).u, some (wi c)]) rfl
      rw [(hx xs c).bo] at this; exact this
    have v2 : eVarB 2 [some (T xs), some (hx xs c).u, some (wi c)] = .ok (wi c) [some (T xs), some (hx xs c).u, some (wi c)] := St.varB (i := 2) (u := wi c) rfl
    refine ⟨?_, ⟨?_, rfl⟩, rfl⟩
    · cases hx xs c <;> rfl
    rcases a2_ok h2 hc with ⟨e1, e2⟩ | ⟨o, e1, e2, ho⟩
    · rw [e2] at v1 ⊢
      have : a3 (hf xs) c = true := by unfold a3; rw [e1]
      rw [this]
      exact St.orVT (St.bin v1 St.c rfl)
    · have a : a3 (hf xs) c = (decide (hf xs o = some c) && !decide (c = o)) := by unfold a3; rw [e1]
      rw [a]
      rw [e2] at v1 v2 ⊢
      refine St.orVF (St.bin (z := .bl false) v1 St.c rfl) ?_
      have g1 := eq_c (hx xs o) c
      rw [eqc_f h2 ho] at g1
      have ix : CV.eBin gIx (eVarB 0) (eVarB 1) [some (T xs), some (En.u (.i (o : Int))), some (wi c)] = .ok (hx xs o).u [some (T xs), some (En.u (.i (o : Int))), some (wi c)] := St.bin (y := wi o) (St.varB (i := 0) (u := T xs) rfl) v1 (T_ix (hx_get ho))
      by_cases q : hf xs o = some c
      · rw [decide_eq_true q] at g1 ⊢
        rw [Bool.true_and]
        exact St.chainT ix v2 g1 v1 (Q.ne c o)
      · rw [decide_eq_false q] at g1 ⊢
        exact St.chainF ix v2 g1
def pS (xs : List En) (l : List Nat) (x2 x3 : Option U) : VL := [some (T xs), some (.lst .o (l.map wi)), x2, x3]
theorem pop1 (r : List Nat) (t : Nat) : mPop (.lst .o ((r ++ [t]).map wi)) [] = some (wi t, .lst .o (r.map wi)) := by
  unfold mPop
  have e : ((r ++ [t]).map wi)[((r ++ [t]).map wi).length - 1]? = some (wi t) := by simp
  dsimp only
  rw [e]
  simp
theorem ne_nilW (l : List Nat) : gNe (.lst .b (l.map wi)) (.lst .o []) = some (.bl (!decide (l = []))) := by
  have := ne_nil (l.map fun (x : Nat) => En.i (x : Int))
  rw [List.map_map] at this
  have e : gNe (.lst .b (l.map wi)) (.lst .o []) = gNe (.lst .o (l.map (En.u ∘ fun (x : Nat) => En.i (x : Int)))) (.lst .o []) := rfl
  rw [e, this]
  cases l <;> rfl
theorem ip_body {xs : List En} (hl : xs.length ≤ 1000) (h2 : xs.all (a2 xs.length) = true) (iv : CCNC.Ivl (hf xs) xs.length) {c : Nat} (hc : c < xs.length) :
    (CCNC.stp (hf xs) c → ∃ y2 y3, v_is_planar_b1 (pS xs (CCNC.pnd (hf xs) c) (some (wi c)) (some (hx xs c).u)) = .nx (pS xs (CCNC.pnd (hf xs) (c + 1)) y2 y3)) ∧
    (¬ CCNC.stp (hf xs) c → ∃ v, v_is_planar_b1 (pS xs (CCNC.pnd (hf xs) c) (some (wi c)) (some (hx xs c).u)) = .ret (.bl false) v) := by
  obtain ⟨L, hL⟩ : ∃ L, L = CCNC.pnd (hf xs) c := ⟨_, rfl⟩
  obtain ⟨e, he⟩ : ∃ e, e = hx xs c := ⟨_, rfl⟩
  have cs := CCNC.stp_cases iv hc
  have ao := a2_ok h2 hc
  rw [← hL] at cs ⊢
  rw [← he] at ao ⊢
  have v3 : eVarB 3 (pS xs L (some (wi c)) (some e.u)) = .ok e.u (pS xs L (some (wi c)) (some e.u)) := by
    have := St.varB (i := 3) (u := e.u) (v := pS xs L (some (wi c)) (some e.u)) rfl
    rw [e.bo] at this; exact this
  have non : hf xs c = none → e = .n := fun z => by
    rcases ao with ⟨_, e2⟩ | ⟨o, e1, _, _⟩
    · exact e2
    · rw [z] at e1; cases e1
  have som : ∀ o, hf xs c = some o → e = .i (o : Int) := fun o z => by
    rcases ao with ⟨e1, _⟩ | ⟨o', e1, e2, _⟩
    · rw [z] at e1; cases e1
    · rw [z] at e1; cases e1; exact e2
  unfold v_is_planar_b1
  have n1 : CV.tB (tVal (eBin gNe (eVarB 1) (eLst CV.aNil))) (pS xs L (some (wi c)) (some e.u)) = .ok (!decide (L = [])) (pS xs L (some (wi c)) (some e.u)) :=
    St.tb (St.tv (St.bin (x := .lst .b (L.map wi)) (y := .lst .o []) (St.varB (i := 1) (u := .lst .o (L.map wi)) rfl) (St.lst (us := []) St.nil (Nat.zero_le _) rfl) (ne_nilW L)))
  rcases cs with ⟨f0, p0, ns⟩ | ⟨f0, p0, st, p1⟩ | ⟨o, f0, lt, st, p1⟩ | ⟨o, r, f0, lt, p0, st, p1⟩ | ⟨o, r, t, f0, lt, p0, ne, ns⟩
  · obtain rfl := non f0
    rw [decide_eq_false p0] at n1
    exact ⟨fun z => absurd z ns, fun _ => ⟨_, (St.ift (St.tb (St.tv (b := true) (St.bin v3 St.c rfl)))).trans ((St.ift n1).trans (St.ret St.c rfl))⟩⟩
  · obtain rfl := non f0
    refine ⟨fun _ => ⟨some (wi c), some (En.u .n), (St.ift (St.tb (St.tv (b := true) (St.bin v3 St.c rfl)))).trans ((St.iff (v1 := pS xs L (some (wi c)) (some (En.u .n))) ?_).trans ?_)⟩, fun z => absurd st z⟩
    · rw [n1, decide_eq_true p0]; rfl
    · rw [p1, p0]; rfl
  · obtain rfl := som o f0
    refine ⟨fun _ => ⟨some (wi c), some (En.u (.i (o : Int))), (St.iff (St.tb (St.tv (b := false) (St.bin v3 St.c rfl)))).trans ((St.ift (v1 := pS xs L (some (wi c)) (some (En.u (.i (o : Int))))) (St.tb (St.tv (b := true) (St.bin (y := wi c) v3 (St.varB (i := 2) (u := wi c) rfl) (Q.gt_t lt))))).trans ?_)⟩, fun z => absurd st z⟩
    rw [p1]
    have ll : L.length ≤ c := by
      rw [hL]; unfold CCNC.pnd
      exact Nat.le_trans (List.length_filter_le ..) (by simp)
    have m := St.mt (i := 1) (g := mAppend) (v := pS xs L (some (wi c)) (some (En.u (.i (o : Int))))) (mr := CV.aCons (eVarN 2) CV.aNil) (us := [wi c]) (ws := L.map wi) (ws' := L.map wi) (v1 := pS xs L (some (wi c)) (some (En.u (.i (o : Int))))) (u := .non) (o1 := .lst .o (L.map wi ++ [wi c])) rfl (St.cons (St.varN (i := 2) (u := wi c) rfl rfl) St.nil) rfl (by
      unfold mAppend
      dsimp only
      rw [if_pos ⟨by rw [List.length_map]; omega, rfl⟩])
    refine (St.ex m).trans ?_
    show RSU.nx ((pS xs L (some (wi c)) (some (En.u (.i (o : Int))))).set 1 (some (.lst .o (L.map wi ++ [wi c])))) = _
    unfold pS
    rw [List.map_append]; rfl
  · obtain rfl := som o f0
    refine ⟨fun _ => ⟨some (wi c), some (En.u (.i (o : Int))), (St.iff (St.tb (St.tv (b := false) (St.bin v3 St.c rfl)))).trans ((St.iff (v1 := pS xs L (some (wi c)) (some (En.u (.i (o : Int))))) (St.tb (St.tv (b := false) (St.bin (y := wi c) v3 (St.varB (i := 2) (u := wi c) rfl) (Q.gt_f (by omega)))))).trans ?_)⟩, fun z => absurd st z⟩
    rw [p1, p0]
    have m := St.mt (i := 1) (g := mPop) (v := pS xs (r ++ [o]) (some (wi c)) (some (En.u (.i (o : Int))))) (mr := CV.aNil) (us := []) (ws := (r ++ [o]).map wi) (ws' := (r ++ [o]).map wi) (v1 := pS xs (r ++ [o]) (some (wi c)) (some (En.u (.i (o : Int))))) rfl St.nil rfl (pop1 r o)
    exact (St.iff (v1 := pS xs r (some (wi c)) (some (En.u (.i (o : Int))))) (St.tv (b := false) (St.bin (y := wi o) m (St.varN (i := 3) (u := wi o) rfl rfl) (Q.ne_f rfl)))).trans rfl
  · obtain rfl := som o f0
    refine ⟨fun z => absurd z ns, fun _ => ⟨pS xs r (some (wi c)) (some (En.u (.i (o : Int)))), (St.iff (St.tb (St.tv (b := false) (St.bin v3 St.c rfl)))).trans ((St.iff (v1 := pS xs L (some (wi c)) (some (En.u (.i (o : Int))))) (St.tb (St.tv (b := false) (St.bin (y := wi c) v3 (St.varB (i := 2) (u := wi c) rfl) (Q.gt_f (by omega)))))).trans ?_)⟩⟩
    rw [p0]
    have m := St.mt (i := 1) (g := mPop) (v := pS xs (r ++ [t]) (some (wi c)) (some (En.u (.i (o : Int))))) (mr := CV.aNil) (us := []) (ws := (r ++ [t]).map wi) (ws' := (r ++ [t]).map wi) (v1 := pS xs (r ++ [t]) (some (wi c)) (some (En.u (.i (o : Int))))) rfl St.nil rfl (pop1 r t)
    exact (St.ift (v1 := pS xs r (some (wi c)) (some (En.u (.i (o : Int))))) (St.tv (b := true) (St.bin (y := wi o) m (St.varN (i := 3) (u := wi o) rfl rfl) (Q.ne_t ne)))).trans (St.ret St.c rfl)
theorem ip_loop {xs : List En} (hl : xs.length ≤ 1000) (h2 : xs.all (a2 xs.length) = true) (iv : CCNC.Ivl (hf xs) xs.length) : ∀ (m c : Nat), c + m = xs.length → ∀ (x2 x3 : Option U),
    ((∀ x, c ≤ x → x < xs.length → CCNC.stp (hf xs) x) → ∃ v, forL (CV.gTupT 2 (CV.gsCons (CV.gNf 2) (CV.gsCons (CV.gNf 3) CV.gsNil))) v_is_planar_b1 ((List.range' c m).map fun x => .tup [wi x, (hx xs x).u]) (pS xs (CCNC.pnd (hf xs) c) x2 x3) = .nx v) ∧
    (¬ (∀ x, c ≤ x → x < xs.length → CCNC.stp (hf xs) x) → ∃ v, forL (CV.gTupT 2 (CV.gsCons (CV.gNf 2) (CV.gsCons (CV.gNf 3) CV.gsNil))) v_is_planar_b1 ((List.range' c m).map fun x => .tup [wi x, (hx xs x).u]) (pS xs (CCNC.pnd (hf xs) c) x2 x3) = .ret (.bl false) v)
  | 0, c, h, x2, x3 => ⟨fun _ => ⟨_, rfl⟩, fun z => absurd (fun x h1 h2 => by omega) z⟩
  | m + 1, c, h, x2, x3 => by
    obtain ⟨a, b⟩ := ip_body hl h2 iv (show c < xs.length by omega)
    rw [List.range'_succ, List.map_cons]
    have g : CV.gTupT 2 (CV.gsCons (CV.gNf 2) (CV.gsCons (CV.gNf 3) CV.gsNil)) (.tup [wi c, (hx xs c).u]) (pS xs (CCNC.pnd (hf xs) c) x2 x3) = some (pS xs (CCNC.pnd (hf xs) c) (some (wi c)) (some (hx xs c).u)) := by
      refine St.gtup2 (v1 := pS xs (CCNC.pnd (hf xs) c) (some (wi c)) x3) rfl ?_
      show some ((pS xs (CCNC.pnd (hf xs) c) (some (wi c)) x3).set 3 (some (frz (hx xs c).u))) = _
      rw [(hx xs c).fr]; rfl
    by_cases q : CCNC.stp (hf xs) c
    · obtain ⟨y2, y3, e⟩ := a q
      obtain ⟨c1, c2⟩ := ip_loop hl h2 iv m (c + 1) (by omega) y2 y3
      rw [St.for_cons g e]
      refine ⟨fun z => c1 fun x h1 h2 => z x (by omega) h2, fun z => c2 fun w => z fun x h1 h2 => ?_⟩
      rcases Nat.lt_or_eq_of_le h1 with lt | rfl
      · exact w x lt h2
      · exact q
    · obtain ⟨v, e⟩ := b q
      exact ⟨fun z => absurd (z c (Nat.le_refl _) (by omega)) q, fun _ => ⟨v, St.for_ret g e⟩⟩
theorem planar_ok {xs : List En} (hl : xs.length ≤ 1000) (h2 : xs.all (a2 xs.length) = true) (iv : CCNC.Ivl (hf xs) xs.length) :
    ((∀ x, x < xs.length → CCNC.stp (hf xs) x) → u_is_planar [T xs] = .ok (.bl true) .non) ∧ (¬ (∀ x, x < xs.length → CCNC.stp (hf xs) x) → u_is_planar [T xs] = .ok (.bl false) .non) := by
  have s1 : ip1 [some (T xs), none, none, none] = .nx (pS xs (CCNC.pnd (hf xs) 0) none none) := St.asgM (i := 1) (u := .lst .o []) (St.vb (St.lst (us := []) St.nil (Nat.zero_le _) rfl) rfl)
  obtain ⟨a, b⟩ := ip_loop hl h2 iv xs.length 0 (Nat.zero_add _) none none
  have it : CV.iEnm (eVarN 0) (pS xs (CCNC.pnd (hf xs) 0) none none) = .ok ((List.range' 0 xs.length).map fun x => .tup [wi x, (hx xs x).u]) (pS xs (CCNC.pnd (hf xs) 0) none none) := by
    rw [← en_ok]
    exact St.ienm (St.varN (i := 0) (u := T xs) rfl (by
      show noO (.tup (xs.map En.u)) = true
      rfl)) (T_items xs) (En.all xs)
  refine ⟨fun z => ?_, fun z => ?_⟩
  · obtain ⟨v, e⟩ := a fun x _ h => z x h
    exact St.fnV_ret (v := v) rfl rfl ((St.nx s1).trans ((St.nx ((St.sfor it).trans e)).trans (St.ret St.c rfl)))
  · obtain ⟨v, e⟩ := b fun w => z fun x h => w x (Nat.zero_le _) h
    exact St.fnV_ret (v := v) rfl rfl ((St.nx s1).trans (St.seqR ((St.sfor it).trans e)))
theorem ins_mem {xs : List En} {lo hi : Nat} {e : En} : e ∈ ins xs lo hi ↔ ∃ m, lo < m ∧ m < hi ∧ xs[m]? = some e := by
  unfold ins
  rw [List.mem_iff_getElem?]
  constructor
  · rintro ⟨i, h⟩
    rw [List.getElem?_take] at h
    split at h
    · rw [List.getElem?_drop] at h
      exact ⟨lo + 1 + i, by omega, by omega, h⟩
    · cases h
  · rintro ⟨m, h1, h2, h⟩
    refine ⟨m - (lo + 1), ?_⟩
    rw [List.getElem?_take, if_pos (by omega), List.getElem?_drop]
    rw [show lo + 1 + (m - (lo + 1)) = m by omega]
    exact h
theorem inb_of {lo hi y : Nat} (h : ¬ (isI (.i (y : Int)) && !inb lo hi (.i (y : Int))) = true) : lo < y ∧ y < hi := by
  have q : inb lo hi (.i (y : Int)) = true := by
    cases e : inb lo hi (.i (y : Int)) with
    | true => rfl
    | false => rw [e] at h; exact absurd rfl h
  unfold inb at q
  dsimp only at q
  rw [Bool.and_eq_true] at q
  have a := of_decide_eq_true q.1
  have b := of_decide_eq_true q.2
  omega
theorem of_inb {lo hi y : Nat} (h : lo < y ∧ y < hi) : ¬ (isI (.i (y : Int)) && !inb lo hi (.i (y : Int))) = true := by
  have q : inb lo hi (.i (y : Int)) = true := by
    unfold inb
    dsimp only
    rw [decide_eq_true (by omega), decide_eq_true (by omega)]; rfl
  rw [q]
  exact Bool.false_ne_true
theorem lb_okc {xs : List En} (h2 : xs.all (a2 xs.length) = true) (iv : CCNC.Ivl (hf xs) xs.length) {c : Nat} (hc : c < xs.length) : lb xs c = true ↔ CCNC.okc (hf xs) c := by
  unfold lb CCNC.okc
  rw [hx_get hc]
  rcases a2_ok h2 hc with ⟨e1, e2⟩ | ⟨o, e1, e2, ho⟩
  · rw [e1, e2]
    exact ⟨fun _ o h => (by cases h), fun _ => rfl⟩
  · have i := iv c o hc e1
    rw [e1, e2]
    dsimp only
    rw [Int.toNat_natCast, hx_get ho]
    dsimp only
    rw [eqc_f h2 ho, decide_eq_true i.2.2, decide_eq_true (by omega : (0 : Int) ≤ (o : Int)), decide_eq_true (by omega : (o : Int) < (xs.length : Int)), decide_eq_false (by omega : ¬ (o : Int) = (c : Int))]
    simp only [Bool.not_false, Bool.and_true, Bool.true_and, Bool.and_eq_true, decide_eq_true_eq, Bool.not_eq_true', List.filter_eq_nil_iff]
    obtain ⟨lo, hlo⟩ : ∃ lo, lo = min c o := ⟨_, rfl⟩
    obtain ⟨hi, hhi⟩ : ∃ hi, hi = max c o := ⟨_, rfl⟩
    rw [← hlo, ← hhi]
    constructor
    · rintro ⟨h1, h3⟩ o' ho' m m1 m2
      cases ho'
      rw [← hlo] at m1 ⊢
      rw [← hhi] at m2 ⊢
      have hm : m < xs.length := by omega
      have me := ins_mem.mpr ⟨m, m1, m2, hx_get hm⟩
      rcases a2_ok h2 hm with ⟨e3, e4⟩ | ⟨y, e3, e4, hy⟩
      · rw [List.any_eq_false] at h1
        exact absurd (decide_eq_true e4) (h1 _ me)
      · have := h3 _ me
        rw [e4] at this
        have := inb_of (by simpa using this)
        exact ⟨y, e3, this.1, this.2⟩
    · intro h
      have h := h o rfl
      rw [← hlo, ← hhi] at h
      refine ⟨List.any_eq_false.mpr fun e me z => ?_, fun e me => ?_⟩
      · obtain ⟨m, m1, m2, hm⟩ := ins_mem.mp me
        have lm : m < xs.length := (List.getElem?_eq_some_iff.mp hm).1
        rw [hx_get lm] at hm
        cases hm
        obtain ⟨y, e3, _⟩ := h m m1 m2
        have z := of_decide_eq_true z
        unfold hf at e3
        rw [z] at e3; cases e3
      · obtain ⟨m, m1, m2, hm⟩ := ins_mem.mp me
        have lm : m < xs.length := (List.getElem?_eq_some_iff.mp hm).1
        rw [hx_get lm] at hm
        cases hm
        obtain ⟨y, e3, y1, y2⟩ := h m m1 m2
        rcases a2_ok h2 lm with ⟨e4, _⟩ | ⟨y', e4, e5, _⟩
        · rw [e3] at e4; cases e4
        · rw [e3] at e4; cases e4
          rw [e5]
          simpa using of_inb (y := y) ⟨y1, y2⟩
theorem a3_iv {xs : List En} (h2 : xs.all (a2 xs.length) = true) (h3 : (List.range' 0 xs.length).all (a3 (hf xs)) = true) : CCNC.Ivl (hf xs) xs.length := fun c o hc e => by
  have := List.all_eq_true.mp h3 c (by simp; exact hc)
  unfold a3 at this
  rw [e] at this
  simp only [Bool.and_eq_true, decide_eq_true_eq, Bool.not_eq_true', decide_eq_false_iff_not] at this
  rcases a2_ok h2 hc with ⟨e1, _⟩ | ⟨o', e1, _, ho⟩
  · rw [e] at e1; cases e1
  · rw [e] at e1; cases e1
    exact ⟨ho, fun z => this.2 z.symm, this.1⟩
theorem lb_a2 {xs : List En} (h : xs.all (a2 xs.length) = false) : (List.range xs.length).all (lb xs) = false := by
  rw [List.all_eq_false] at h ⊢
  obtain ⟨e, m, h⟩ := h
  obtain ⟨c, hc⟩ := List.mem_iff_getElem?.mp m
  refine ⟨c, List.mem_range.mpr (List.getElem?_eq_some_iff.mp hc).1, fun z => h ?_⟩
  unfold lb at z
  rw [hc] at z
  cases e with
  | n => rfl
  | i y =>
    simp only [Bool.and_eq_true] at z
    unfold a2
    rw [Bool.and_eq_true]
    exact z.1.1.1.1
  | b v => cases z
  | s => cases z
  | t => cases z
theorem lb_a3 {xs : List En} (h2 : xs.all (a2 xs.length) = true) (h : (List.range' 0 xs.length).all (a3 (hf xs)) = false) : (List.range xs.length).all (lb xs) = false := by
  rw [List.all_eq_false] at h ⊢
  obtain ⟨c, m, h⟩ := h
  have hc : c < xs.length := by simpa using m
  refine ⟨c, List.mem_range.mpr hc, fun z => h ?_⟩
  unfold a3
  rcases a2_ok h2 hc with ⟨e1, e2⟩ | ⟨o, e1, e2, ho⟩
  · rw [e1]
  · rw [e1]
    unfold lb at z
    rw [hx_get hc, e2] at z
    dsimp only at z
    rw [Int.toNat_natCast, hx_get ho] at z
    dsimp only at z
    rw [eqc_f h2 ho] at z
    simp only [Bool.and_eq_true, Bool.not_eq_true', decide_eq_true_eq, decide_eq_false_iff_not] at z ⊢
    exact ⟨z.1.1.2, fun w => z.1.1.1.2 (by omega)⟩
theorem is_half_ok {xs : List En} (hl : xs.length ≤ 1000) : u_is_half [T xs] = .ok (.bl (lawB xs)) .non := by
  have v0 : eVarB 0 (h0 xs) = .ok (T xs) (h0 xs) := St.varB (i := 0) (u := T xs) rfl
  have t1 : CV.tB (tOrT (tNotT (tVal (eIsi (CC.qTup []) (eVarB 0)))) (tNotT (tVal (CV.eCall u_is_columns [] (CV.aCons (CV.eB fLen (CV.aCons (eVarB 0) CV.aNil)) CV.aNil))))) (h0 xs) = .ok (!decide (1 ≤ xs.length ∧ xs.length ≤ 16)) (h0 xs) :=
    St.tb (v1 := h0 xs) (St.tOrTF (St.notT (b := true) (St.tv (St.isi v0 rfl))) (St.notT (St.tv (St.call (St.cons (St.eb1 v0 (T_len xs)) St.nil) (iscols_any xs.length)))))
  unfold lawB
  by_cases q : 1 ≤ xs.length ∧ xs.length ≤ 16
  · rw [decide_eq_true q] at t1 ⊢
    rw [Bool.true_and]
    have s1 : ih1 (h0 xs) = .nx (h0 xs) := (St.iff t1).trans rfl
    have t2 := St.tb (St.notT (St.tv (St.eb1 (c2_ok hl) (all_ok (a2 xs.length) xs))))
    cases h2 : xs.all (a2 xs.length) with
    | false =>
      rw [h2] at t2
      rw [lb_a2 h2]
      exact St.fnV_ret (v := h0 xs) rfl rfl ((St.nx s1).trans (St.seqR ((St.ift t2).trans (St.ret St.c rfl))))
    | true =>
      rw [h2] at t2
      have s2 : ih2 (h0 xs) = .nx (h0 xs) := (St.iff t2).trans rfl
      have t3 := St.tb (St.notT (St.tv (St.eb1 (c3_ok hl h2) (all_ok (a3 (hf xs)) (List.range' 0 xs.length)))))
      cases h3 : (List.range' 0 xs.length).all (a3 (hf xs)) with
      | false =>
        rw [h3] at t3
        rw [lb_a3 h2 h3]
        exact St.fnV_ret (v := h0 xs) rfl rfl ((St.nx s1).trans ((St.nx s2).trans (St.seqR ((St.ift t3).trans (St.ret St.c rfl)))))
      | true =>
        rw [h3] at t3
        have s3 : ih3 (h0 xs) = .nx (h0 xs) := (St.iff t3).trans rfl
        have iv := a3_iv h2 h3
        obtain ⟨p1, p2⟩ := planar_ok hl h2 iv
        have fin : ∀ b, u_is_planar [T xs] = .ok (.bl b) .non → u_is_half [T xs] = .ok (.bl b) .non := fun b e =>
          St.fnV_ret (v := h0 xs) rfl rfl ((St.nx s1).trans ((St.nx s2).trans ((St.nx s3).trans (St.ret (St.vb (St.call (St.cons v0 St.nil) e) rfl) rfl))))
        have eq : (List.range xs.length).all (lb xs) = true ↔ ∀ x, x < xs.length → CCNC.stp (hf xs) x := by
          rw [← CCNC.plan_iff iv, List.all_eq_true]
          exact ⟨fun h c hc => (lb_okc h2 iv hc).mp (h c (List.mem_range.mpr hc)), fun h c hc => (lb_okc h2 iv (List.mem_range.mp hc)).mpr (h c (List.mem_range.mp hc))⟩
        cases h4 : (List.range xs.length).all (lb xs) with
        | true => exact fin _ (p1 (eq.mp h4))
        | false => exact fin _ (p2 fun z => by rw [eq.mpr z] at h4; cases h4)
  · rw [decide_eq_false q] at t1 ⊢
    exact St.fnV_ret (v := h0 xs) rfl rfl (St.seqR ((St.ift t1).trans (St.ret St.c rfl)))
end K35.V
set_option Elab.async false
set_option linter.all false
set_option maxRecDepth 100000
set_option maxHeartbeats 1000000
namespace K35.V
open PySem PySem.Spec PyProof.Rows L2 CV
abbrev rh1 : VL → RSU := (sPar2 (gNm 2) (gNm 3) (aCons (vB (eBin gMul (eLst (aCons (eC .non) aNil)) (eVarB 1))) (aCons (vB (eLst aNil)) aNil)))
abbrev rh3 : VL → RSU := (sRet (vB (eB fTuple (aCons (eVarB 2) aNil))))
abbrev rb1 : VL → RSU := (sAsg (gNf 5) (vB (eBin gGe (eB fLen (aCons (eVarB 3) aNil)) (eBin gSub (eBin gSub (eVarB 1) (eVarB 4)) (eC (.int 1))))))
abbrev rb2 : VL → RSU := (sIf (tAndT (tB (tVal (eBin gNe (eVarB 3) (eLst aNil)))) (tOrT (tB (tVal (eVarB 5))) (tVal (eBin gEq (eCallM 0 u__law_take [] (aCons (eC (.int 2)) aNil)) (eC (.int 0)))))) (sSeq (sAsg (gNf 6) (eMut 3 mPop aNil)) (sAsg (gTupT 2 (gsCons (gFz (gSt 2 (eVarN 4))) (gsCons (gFz (gSt 2 (eVarN 6))) gsNil))) (vB (eTup (aCons (eVarB 6) (aCons (eVarB 4) aNil)))))) (sIf (tAndT (tB (tVal (eBin gLt (eB fLen (aCons (eVarB 3) aNil)) (eBin gSub (eBin gSub (eVarB 1) (eVarB 4)) (eC (.int 1)))))) (tOrT (tB (tVal (eBin gNe (eVarB 3) (eLst aNil)))) (tVal (eBin gGt (eCallM 0 u__law_take [] (aCons (eC (.int 3)) aNil)) (eC (.int 0)))))) (sEx (eMut 3 mAppend (aCons (eVarN 4) aNil))) sNx))
theorem pl_take (a b : Int) (n : Nat) (ha : 0 ≤ a) (hb : 0 ≤ b) (h0 : 0 < n) (h1 : n < 1000000) : ∃ (a' b' : Int) (q : Nat), 0 ≤ a' ∧ 0 ≤ b' ∧ q < n ∧ u__law_take [.lst .o [.int a, .int b], wi n] = .ok (wi q) (.lst .o [.int a', .int b']) := take_nat a b n ha hb h0 h1
def eo : Option Nat → En
  | none => .n
  | some y => .i (y : Int)
def hE (f : Nat → Option Nat) (w : Nat) : List En := (List.range w).map fun x => eo (f x)
theorem hE_len (f : Nat → Option Nat) (w : Nat) : (hE f w).length = w := by unfold hE; simp
def rS (a b : Int) (w : Nat) (f : Nat → Option Nat) (P : List Nat) (x4 x5 x6 : Option U) : VL := [some (.lst .o [.int a, .int b]), some (wi w), some (.lst .o ((hE f w).map En.u)), some (.lst .o (P.map wi)), x4, x5, x6]
theorem set_hE {f : Nat → Option Nat} {w a b : Nat} (h : a < w) : setO (.lst .o ((hE f w).map En.u)) (wi a) (wi b) = some (.lst .o ((hE (CCNC.upf f a b) w).map En.u)) := by
  have e : ((hE f w).map En.u).set a (wi b) = (hE (CCNC.upf f a b) w).map En.u := by
    unfold hE
    apply List.ext_getElem
    · simp
    · intro i h1 h2
      rw [List.getElem_set]
      simp only [List.getElem_map, List.getElem_range]
      unfold CCNC.upf
      by_cases q : a = i
      · subst q; rw [if_pos rfl, if_pos rfl]; rfl
      · rw [if_neg q, if_neg (fun z => q z.symm)]
  show setO (.lst .o ((hE f w).map En.u)) (.int (a : Int)) (wi b) = _
  unfold setO
  dsimp only
  have ix : ixN ((hE f w).map En.u).length (a : Int) = some a := by
    rw [List.length_map, hE_len]
    unfold ixN
    rw [if_pos (by omega), if_pos (by omega), Int.toNat_natCast]
  rw [ix]
  dsimp only
  rw [if_pos (show noB (wi b) = true from rfl), e]
theorem rb_ok {a b : Int} (ha : 0 ≤ a) (hb : 0 ≤ b) {w c : Nat} (hw : w ≤ 16) (hc : c < w) {f : Nat → Option Nat} {P : List Nat} (J : CCNC.Jh w c f P) (x5 x6 : Option U) :
    ∃ a' b' f' P' y5 y6, 0 ≤ a' ∧ 0 ≤ b' ∧ CCNC.Jh w (c + 1) f' P' ∧ v__law_random_half_b1 (rS a b w f P (some (wi c)) x5 x6) = .nx (rS a' b' w f' P' (some (wi c)) y5 y6) := by
  have v1 : ∀ a b x5, eVarB 1 (rS a b w f P (some (wi c)) x5 x6) = .ok (wi w) (rS a b w f P (some (wi c)) x5 x6) := fun _ _ _ => St.varB (i := 1) (u := wi w) rfl
  have v3 : ∀ a b x5, eVarB 3 (rS a b w f P (some (wi c)) x5 x6) = .ok (.lst .b (P.map wi)) (rS a b w f P (some (wi c)) x5 x6) := fun _ _ _ => St.varB (i := 3) (u := .lst .o (P.map wi)) rfl
  have v4 : ∀ a b x5, eVarB 4 (rS a b w f P (some (wi c)) x5 x6) = .ok (wi c) (rS a b w f P (some (wi c)) x5 x6) := fun _ _ _ => St.varB (i := 4) (u := wi c) rfl
  have ln : ∀ a b x5, CV.eB fLen (CV.aCons (eVarB 3) CV.aNil) (rS a b w f P (some (wi c)) x5 x6) = .ok (wi P.length) (rS a b w f P (some (wi c)) x5 x6) := fun a b x5 => by
    have := St.eb1 (v3 a b x5) (Q.len .b (P.map wi))
    rw [List.length_map] at this; exact this
  have rest : ∀ a b x5, CV.eBin gSub (CV.eBin gSub (eVarB 1) (eVarB 4)) (eC (.int 1)) (rS a b w f P (some (wi c)) x5 x6) = .ok (wi (w - c - 1)) (rS a b w f P (some (wi c)) x5 x6) := fun a b x5 =>
    St.bin (y := wi 1) (St.bin (v1 _ _ _) (v4 _ _ _) (Q.sub (by omega))) St.c (Q.sub (by omega))
  obtain ⟨mc, hmc⟩ : ∃ mc, mc = decide (w - c - 1 ≤ P.length) := ⟨_, rfl⟩
  have s1 : rb1 (rS a b w f P (some (wi c)) x5 x6) = .nx (rS a b w f P (some (wi c)) (some (.bl mc)) x6) := by
    rw [hmc]
    exact St.asgF (i := 5) (u := .bl (decide (w - c - 1 ≤ P.length))) (St.vb (St.bin (ln _ _ _) (rest _ _ _) (Q.ge _ _)) rfl)
  have nn : ∀ a b, CV.tB (tVal (eBin gNe (eVarB 3) (eLst CV.aNil))) (rS a b w f P (some (wi c)) (some (.bl mc)) x6) = .ok (!decide (P = [])) (rS a b w f P (some (wi c)) (some (.bl mc)) x6) := fun a b =>
    St.tb (St.tv (St.bin (y := .lst .o []) (v3 _ _ _) (St.lst (us := []) St.nil (Nat.zero_le _) rfl) (ne_nilW P)))
  have v5 : ∀ a b, CV.tB (tVal (eVarB 5)) (rS a b w f P (some (wi c)) (some (.bl mc)) x6) = .ok mc (rS a b w f P (some (wi c)) (some (.bl mc)) x6) := fun _ _ => St.tb (St.tv (St.varB (i := 5) (u := .bl mc) rfl))
  obtain ⟨a1, b1, q1, ha1, hb1, hq1, tk1⟩ := pl_take a b 2 ha hb (by decide) (by decide)
  have cm1 : CV.eCallM 0 u__law_take [] (CV.aCons (eC (.int 2)) CV.aNil) (rS a b w f P (some (wi c)) (some (.bl mc)) x6) = .ok (wi q1) (rS a1 b1 w f P (some (wi c)) (some (.bl mc)) x6) := St.callM (i := 0) (o := .lst .o [.int a, .int b]) ⟨_, rfl⟩ (St.cons St.c St.nil) rfl tk1
  have close : ∀ a b, 0 ≤ a → 0 ≤ b → P ≠ [] → ∃ f' P' y5 y6, CCNC.Jh w (c + 1) f' P' ∧ sSeq (sAsg (gNf 6) (eMut 3 mPop CV.aNil)) (sAsg (CV.gTupT 2 (CV.gsCons (CV.gFz (CV.gSt 2 (eVarN 4))) (CV.gsCons (CV.gFz (CV.gSt 2 (eVarN 6))) CV.gsNil))) (CV.vB (CV.eTup (CV.aCons (eVarB 6) (CV.aCons (eVarB 4) CV.aNil))))) (rS a b w f P (some (wi c)) (some (.bl mc)) x6) = .nx (rS a b w f' P' (some (wi c)) y5 y6) := fun a b ha hb ne => by
    obtain ⟨r, t, rfl⟩ : ∃ r t, P = r ++ [t] := ⟨_, _, (List.dropLast_concat_getLast ne).symm⟩
    have lt := (J.lt t (by simp)).1
    refine ⟨_, _, some (.bl mc), some (wi t), J.close, ?_⟩
    have m := St.mt (i := 3) (g := mPop) (v := rS a b w f (r ++ [t]) (some (wi c)) (some (.bl mc)) x6) (mr := CV.aNil) (us := []) (ws := (r ++ [t]).map wi) (ws' := (r ++ [t]).map wi) (v1 := rS a b w f (r ++ [t]) (some (wi c)) (some (.bl mc)) x6) rfl St.nil rfl (pop1 r t)
    have p1 : sAsg (gNf 6) (eMut 3 mPop CV.aNil) (rS a b w f (r ++ [t]) (some (wi c)) (some (.bl mc)) x6) = .nx (rS a b w f r (some (wi c)) (some (.bl mc)) (some (wi t))) := St.asgF (i := 6) (u := wi t) m
    refine (St.nx p1).trans ?_
    refine St.asg (u := .tup [wi t, wi c]) (v1 := rS a b w f r (some (wi c)) (some (.bl mc)) (some (wi t))) (St.vb (St.tup (us := [wi t, wi c]) (St.cons (St.varB (i := 6) (u := wi t) rfl) (St.cons (St.varB (i := 4) (u := wi c) rfl) St.nil)) (show 2 ≤ 1000000 by decide) rfl) rfl) ?_
    refine St.gtup2 (v1 := rS a b w (CCNC.upf f c t) r (some (wi c)) (some (.bl mc)) (some (wi t))) (St.fz ?_) (St.fz ?_)
    · exact St.st (i := 2) (j := wi c) (o := .lst .o ((hE f w).map En.u)) ⟨_, rfl⟩ (St.varN (i := 4) (u := wi c) rfl rfl) rfl (set_hE hc)
    · exact St.st (i := 2) (j := wi t) (o := .lst .o ((hE (CCNC.upf f c t) w).map En.u)) ⟨_, rfl⟩ (St.varN (i := 6) (u := wi t) rfl rfl) rfl (set_hE (by omega))
  have app : ∀ a b, P.length < w - c - 1 → sEx (eMut 3 mAppend (CV.aCons (eVarN 4) CV.aNil)) (rS a b w f P (some (wi c)) (some (.bl mc)) x6) = .nx (rS a b w f (P ++ [c]) (some (wi c)) (some (.bl mc)) x6) := fun a b hl => by
    have m := St.mt (i := 3) (g := mAppend) (v := rS a b w f P (some (wi c)) (some (.bl mc)) x6) (mr := CV.aCons (eVarN 4) CV.aNil) (us := [wi c]) (ws := P.map wi) (ws' := P.map wi) (v1 := rS a b w f P (some (wi c)) (some (.bl mc)) x6) (u := .non) (o1 := .lst .o (P.map wi ++ [wi c])) rfl (St.cons (St.varN (i := 4) (u := wi c) rfl rfl) St.nil) rfl (by
      unfold mAppend
      dsimp only
      rw [if_pos ⟨by rw [List.length_map]; omega, rfl⟩])
    refine (St.ex m).trans ?_
    show RSU.nx ((rS a b w f P (some (wi c)) (some (.bl mc)) x6).set 3 (some (.lst .o (P.map wi ++ [wi c])))) = _
    unfold rS
    rw [List.map_append]; rfl
  have lt0 : ∀ a b, CV.tB (tVal (eBin gLt (CV.eB fLen (CV.aCons (eVarB 3) CV.aNil)) (CV.eBin gSub (CV.eBin gSub (eVarB 1) (eVarB 4)) (eC (.int 1))))) (rS a b w f P (some (wi c)) (some (.bl mc)) x6) = .ok (decide (P.length < w - c - 1)) (rS a b w f P (some (wi c)) (some (.bl mc)) x6) := fun a b =>
    St.tb (St.tv (St.bin (ln _ _ _) (rest _ _ _) (Q.lt _ _)))
  obtain ⟨T1, hT1⟩ : ∃ T1 : VL → RU Bool, T1 = tAndT (CV.tB (tVal (eBin gNe (eVarB 3) (eLst CV.aNil)))) (tOrT (CV.tB (tVal (eVarB 5))) (tVal (eBin gEq (CV.eCallM 0 u__law_take [] (CV.aCons (eC (.int 2)) CV.aNil)) (eC (.int 0))))) := ⟨_, rfl⟩
  have go : ∀ {r}, rb2 (rS a b w f P (some (wi c)) (some (.bl mc)) x6) = r → v__law_random_half_b1 (rS a b w f P (some (wi c)) x5 x6) = r := fun q => (St.nx s1).trans q
  by_cases ne : P = []
  · subst ne
    have t1 := nn a b
    rw [decide_eq_true rfl] at t1
    have t1' : T1 (rS a b w f [] (some (wi c)) (some (.bl mc)) x6) = .ok false (rS a b w f [] (some (wi c)) (some (.bl mc)) x6) := by
      rw [hT1]; exact St.tAndTF t1
    rw [hT1] at t1'
    have l0 := lt0 a b
    by_cases q : ([] : List Nat).length < w - c - 1
    · rw [decide_eq_true q] at l0
      obtain ⟨a2, b2, q2, ha2, hb2, hq2, tk2⟩ := pl_take a b 3 ha hb (by decide) (by decide)
      have cm2 : CV.eCallM 0 u__law_take [] (CV.aCons (eC (.int 3)) CV.aNil) (rS a b w f [] (some (wi c)) (some (.bl mc)) x6) = .ok (wi q2) (rS a2 b2 w f [] (some (wi c)) (some (.bl mc)) x6) := St.callM (i := 0) (o := .lst .o [.int a, .int b]) ⟨_, rfl⟩ (St.cons St.c St.nil) rfl tk2
      have g := Q.gt q2 0
      by_cases z : 0 < q2
      · rw [decide_eq_true z] at g
        exact ⟨a2, b2, _, _, _, _, ha2, hb2, J.push q, go ((St.iff t1').trans ((St.ift (v1 := rS a2 b2 w f [] (some (wi c)) (some (.bl mc)) x6) (St.tAndTT l0 (St.tOrTF t1 (St.tv (St.bin (y := wi 0) cm2 St.c g))))).trans (app a2 b2 q)))⟩
      · rw [decide_eq_false z] at g
        exact ⟨a2, b2, _, _, _, _, ha2, hb2, J.skip, go ((St.iff t1').trans ((St.iff (v1 := rS a2 b2 w f [] (some (wi c)) (some (.bl mc)) x6) (St.tAndTT l0 (St.tOrTF t1 (St.tv (St.bin (y := wi 0) cm2 St.c g))))).trans rfl))⟩
    · rw [decide_eq_false q] at l0
      exact ⟨a, b, _, _, _, _, ha, hb, J.skip, go ((St.iff t1').trans ((St.iff (St.tAndTF l0)).trans rfl))⟩
  · have t1 := nn a b
    rw [decide_eq_false ne] at t1
    cases e : mc with
    | true =>
      obtain ⟨f', P', y5, y6, J', cl⟩ := close a b ha hb ne
      have t5 := v5 a b
      rw [e] at t5
      have t1' : T1 (rS a b w f P (some (wi c)) (some (.bl mc)) x6) = .ok true (rS a b w f P (some (wi c)) (some (.bl mc)) x6) := by
        rw [hT1]; exact St.tAndTT t1 (by rw [e]; exact St.tOrTT t5)
      rw [hT1] at t1'
      exact ⟨a, b, f', P', y5, y6, ha, hb, J', go ((St.ift t1').trans cl)⟩
    | false =>
      have t5 := v5 a b
      rw [e] at t5
      have g := Q.eq q1 0
      by_cases z : q1 = 0
      · rw [decide_eq_true z] at g
        obtain ⟨f', P', y5, y6, J', cl⟩ := close a1 b1 ha1 hb1 ne
        have t1' : T1 (rS a b w f P (some (wi c)) (some (.bl mc)) x6) = .ok true (rS a1 b1 w f P (some (wi c)) (some (.bl mc)) x6) := by
          rw [hT1]; exact St.tAndTT t1 (St.tOrTF (by rw [e]; exact t5) (St.tv (St.bin (y := wi 0) cm1 St.c g)))
        rw [hT1] at t1'
        exact ⟨a1, b1, f', P', y5, y6, ha1, hb1, J', go ((St.ift t1').trans cl)⟩
      · rw [decide_eq_false z] at g
        have t1' : T1 (rS a b w f P (some (wi c)) (some (.bl mc)) x6) = .ok false (rS a1 b1 w f P (some (wi c)) (some (.bl mc)) x6) := by
          rw [hT1]; exact St.tAndTT t1 (St.tOrTF (by rw [e]; exact t5) (St.tv (St.bin (y := wi 0) cm1 St.c g)))
        rw [hT1] at t1'
        have lq : P.length < w - c - 1 := by
          rw [hmc] at e
          have := of_decide_eq_false e
          omega
        have l0 := lt0 a1 b1
        rw [decide_eq_true lq] at l0
        have n1 := nn a1 b1
        rw [decide_eq_false ne] at n1
        exact ⟨a1, b1, _, _, _, _, ha1, hb1, J.push lq, go ((St.iff t1').trans ((St.ift (St.tAndTT l0 (St.tOrTT n1))).trans (app a1 b1 lq)))⟩
theorem rh_loop {w : Nat} (hw : w ≤ 16) : ∀ (m c : Nat), c + m = w → ∀ {a b : Int}, 0 ≤ a → 0 ≤ b → ∀ {f : Nat → Option Nat} {P : List Nat}, CCNC.Jh w c f P → ∀ (x4 x5 x6 : Option U),
    ∃ a' b' f' P' y4 y5 y6, 0 ≤ a' ∧ 0 ≤ b' ∧ CCNC.Jh w w f' P' ∧ forL (gNf 4) v__law_random_half_b1 ((List.range' c m).map wi) (rS a b w f P x4 x5 x6) = .nx (rS a' b' w f' P' y4 y5 y6)
  | 0, c, h, a, b, ha, hb, f, P, J, x4, x5, x6 => by
    have : c = w := by omega
    subst this
    exact ⟨a, b, f, P, x4, x5, x6, ha, hb, J, rfl⟩
  | m + 1, c, h, a, b, ha, hb, f, P, J, x4, x5, x6 => by
    obtain ⟨a1, b1, f1, P1, y5, y6, ha1, hb1, J1, e⟩ := rb_ok ha hb hw (show c < w by omega) J x5 x6
    obtain ⟨a2, b2, f2, P2, z4, z5, z6, ha2, hb2, J2, e2⟩ := rh_loop hw m (c + 1) (by omega) ha1 hb1 J1 (some (wi c)) y5 y6
    refine ⟨a2, b2, f2, P2, z4, z5, z6, ha2, hb2, J2, ?_⟩
    rw [List.range'_succ, List.map_cons, St.for_cons (v1 := rS a b w f P (some (wi c)) x5 x6) rfl e]
    exact e2
theorem rep_non : ∀ w, w ≤ 16 → gMul (.lst .o [.non]) (wi w) = some (.lst .o ((hE (fun _ => none) w).map En.u)) := fun w h => by
  show gMul (.lst .o [.non]) (.int (w : Int)) = _
  unfold gMul lsU
  dsimp only
  rw [if_pos ⟨by omega, by omega, by rw [Int.toNat_natCast]; simp; omega, rfl⟩]
  congr 2
  unfold hE
  match w, h with
  | 0, _ => rfl | 1, _ => rfl | 2, _ => rfl | 3, _ => rfl | 4, _ => rfl | 5, _ => rfl | 6, _ => rfl | 7, _ => rfl | 8, _ => rfl | 9, _ => rfl | 10, _ => rfl | 11, _ => rfl | 12, _ => rfl | 13, _ => rfl | 14, _ => rfl | 15, _ => rfl | 16, _ => rfl
  | w + 17, h => omega
theorem random_half_ok {a b : Int} (ha : 0 ≤ a) (hb : 0 ≤ b) {w : Nat} (h1 : 1 ≤ w) (hw : w ≤ 16) : ∃ a' b' f, 0 ≤ a' ∧ 0 ≤ b' ∧ CCNC.Ivl f w ∧ (∀ c, CCNC.okc f c) ∧ (∀ x, w ≤ x → f x = none) ∧ u__law_random_half [.lst .o [.int a, .int b], wi w] = .ok (T (hE f w)) (.lst .o [.int a', .int b']) := by
  obtain ⟨a', b', f, P, y4, y5, y6, ha', hb', J, lp⟩ := rh_loop hw w 0 (Nat.zero_add _) ha hb (CCNC.Jh.zero w) none none none
  obtain ⟨f1, f2, f3⟩ := J.fin
  refine ⟨a', b', f, ha', hb', f1, f2, f3, ?_⟩
  have s1 : rh1 [some (.lst .o [.int a, .int b]), some (wi w), none, none, none, none, none] = .nx (rS a b w (fun _ => none) [] none none none) := by
    refine St.par2 (x := .lst .o ((hE (fun _ => none) w).map En.u)) (y := .lst .o []) (v1 := [some (.lst .o [.int a, .int b]), some (wi w), none, none, none, none, none]) (v2 := [some (.lst .o [.int a, .int b]), some (wi w), some (.lst .o ((hE (fun _ => none) w).map En.u)), none, none, none, none]) (St.cons (St.vb (St.bin (St.lst (us := [.non]) (St.cons St.c St.nil) (Nat.le_of_ble_eq_true rfl) rfl) (St.varB (i := 1) (u := wi w) rfl) (rep_non w hw)) rfl) (St.cons (St.vb (St.lst (us := []) St.nil (Nat.zero_le _) rfl) rfl) St.nil)) rfl rfl
  have it : CV.iRange1 (eVarN 1) (rS a b w (fun _ => none) [] none none none) = .ok ((List.range' 0 w).map wi) (rS a b w (fun _ => none) [] none none none) := St.rg1W (St.varN (i := 1) (u := wi w) rfl rfl) (by omega)
  have tp : fTuple [.lst .b ((hE f w).map En.u)] = some (T (hE f w)) := by
    show (if (((hE f w).map En.u).map bor).all noB && (((hE f w).map En.u).map bor).all noO then some (U.tup (((hE f w).map En.u).map bor)) else none) = _
    have e : ((hE f w).map En.u).map bor = (hE f w).map En.u := by
      rw [List.map_map]
      exact List.map_congr_left fun x _ => x.bo
    have o : ((hE f w).map En.u).all noO = true := List.all_eq_true.mpr fun x m => by
      obtain ⟨e, _, rfl⟩ := List.mem_map.mp m
      exact e.no
    rw [e, En.all, o]; rfl
  have s3 : rh3 (rS a' b' w f P y4 y5 y6) = .ret (T (hE f w)) (rS a' b' w f P y4 y5 y6) := St.ret (St.vb (St.eb1 (St.varB (i := 2) (u := .lst .o ((hE f w).map En.u)) rfl) tp) rfl) rfl
  exact St.fnM_ret (v := rS a' b' w f P y4 y5 y6) rfl rfl ((St.nx s1).trans ((St.nx ((St.sfor it).trans lp)).trans s3)) rfl
theorem random_lawB {w : Nat} (h1 : 1 ≤ w) (hw : w ≤ 16) {f : Nat → Option Nat} (iv : CCNC.Ivl f w) (ok : ∀ c, CCNC.okc f c) (out : ∀ x, w ≤ x → f x = none) : lawB (hE f w) = true := by
  have lx := hE_len f w
  have hxe : ∀ x, x < w → hx (hE f w) x = eo (f x) := fun x h => by
    have := hx_get (xs := hE f w) (x := x) (by omega)
    unfold hE at this ⊢
    rw [List.getElem?_map, List.getElem?_range h] at this
    exact (Option.some.inj this).symm
  have hff : hf (hE f w) = f := by
    funext x
    unfold hf
    by_cases h : x < w
    · rw [hxe x h]
      cases f x with
      | none => rfl
      | some y => show some ((y : Int).toNat) = some y; rw [Int.toNat_natCast]
    · have : hx (hE f w) x = .n := by
        unfold hx
        rw [List.getD_eq_getElem?_getD, List.getElem?_eq_none (by omega)]; rfl
      rw [this, out x (by omega)]
  have h2 : (hE f w).all (a2 (hE f w).length) = true := List.all_eq_true.mpr fun e m => by
    unfold hE at m
    obtain ⟨x, mx, rfl⟩ := List.mem_map.mp m
    have hx := List.mem_range.mp mx
    cases q : f x with
    | none => rfl
    | some y =>
      have := (iv x y hx q).1
      show (decide ((0 : Int) ≤ (y : Int)) && decide ((y : Int) < ((hE f w).length : Int))) = true
      rw [lx, decide_eq_true (by omega), decide_eq_true (by omega)]; rfl
  unfold lawB
  rw [lx, decide_eq_true ⟨h1, hw⟩, Bool.true_and, List.all_eq_true]
  intro c m
  have hc := List.mem_range.mp m
  refine (lb_okc h2 (by rw [hff, lx]; exact iv) (by rw [lx]; exact hc)).mpr ?_
  rw [hff]
  exact ok c
end K35.V
set_option Elab.async false
set_option linter.all false
set_option maxRecDepth 100000
set_option maxHeartbeats 1000000
namespace K35.V
open PySem PySem.Spec PyProof.Rows L2 CV
abbrev md1 : VL → RSU := (sPar2 (gNf 2) (gNf 3) (aCons (eCallM 0 u__law_take [] (aCons (vB (eB fLen (aCons (eVarB 1) aNil))) aNil)) (aCons (eCallM 0 u__law_take [] (aCons (vB (eB fLen (aCons (eVarB 1) aNil))) aNil)) aNil)))
abbrev md2 : VL → RSU := (sAsg (gNf 4) (eCallM 0 u__law_take [] (aCons (eC (.int 9)) aNil)))
abbrev md3 : VL → RSU := (sIf (tB (tVal (eBin gEq (eVarB 4) (eC (.int 0))))) (sSeq (sAsg (gNf 5) (eBin gIx (vB (eLst (aCons (eB fLen (aCons (eVarB 1) aNil)) (aCons (eUn gNeg (eC (.int 1))) (aCons (eC (.bl true)) (aCons (eC (.bl false)) (aCons (eC (.str "0")) (aCons (eTup (aCons (eC (.int 0)) aNil)) (aCons (eBin gPow (eC (.int 10)) (eC (.int 20))) aNil))))))))) (eCallM 0 u__law_take [] (aCons (eC (.int 7)) aNil)))) (sRet (vB (eBin gAdd (eBin gAdd (eSl (eVarB 1) oNo (oSo (eVarB 2))) (eTup (aCons (eVarB 5) aNil))) (eSl (eVarB 1) (oSo (eBin gAdd (eVarB 2) (eC (.int 1)))) oNo))))) sNx)
abbrev md4 : VL → RSU := (sIf (tB (tVal (eBin gEq (eVarB 4) (eC (.int 1))))) (sRet (vB (eBin gAdd (eBin gAdd (eSl (eVarB 1) oNo (oSo (eVarB 2))) (eTup (aCons (eC .non) aNil))) (eSl (eVarB 1) (oSo (eBin gAdd (eVarB 2) (eC (.int 1)))) oNo)))) sNx)
abbrev md5 : VL → RSU := (sIf (tB (tVal (eBin gEq (eVarB 4) (eC (.int 2))))) (sRet (vB (eBin gAdd (eBin gAdd (eSl (eVarB 1) oNo (oSo (eVarB 2))) (eTup (aCons (eVarB 3) aNil))) (eSl (eVarB 1) (oSo (eBin gAdd (eVarB 2) (eC (.int 1)))) oNo)))) sNx)
abbrev md6 : VL → RSU := (sIf (tB (tVal (eBin gEq (eVarB 4) (eC (.int 3))))) (sRet (vB (eBin gAdd (eSl (eVarB 1) oNo (oSo (eVarB 2))) (eSl (eVarB 1) (oSo (eBin gAdd (eVarB 2) (eC (.int 1)))) oNo)))) sNx)
abbrev md7 : VL → RSU := (sIf (tB (tVal (eBin gEq (eVarB 4) (eC (.int 4))))) (sRet (eBin gAdd (eBin gAdd (vB (eSl (eVarB 1) oNo (oSo (eVarB 2)))) (eTup (aCons (eBin gIx (vB (eLst (aCons (eC .non) (aCons (eVarB 2) aNil)))) (eCallM 0 u__law_take [] (aCons (eC (.int 2)) aNil))) aNil))) (vB (eSl (eVarB 1) (oSo (eVarB 2)) oNo)))) sNx)
abbrev md8 : VL → RSU := (sAsg (gNm 6) (vB (eB fList (aCons (eVarB 1) aNil))))
abbrev md9 : VL → RSU := (sIf (tB (tVal (eBin gEq (eVarB 4) (eC (.int 5))))) (sSeq (sAsg (gTupT 2 (gsCons (gFz (gStB 6 2)) (gsCons (gFz (gStB 6 3)) gsNil))) (vB (eTup (aCons (eVarB 3) (aCons (eVarB 2) aNil))))) (sRet (vB (eB fTuple (aCons (eVarB 6) aNil))))) sNx)
abbrev md10 : VL → RSU := (sIf (tB (tVal (eBin gEq (eVarB 4) (eC (.int 6))))) (sSeq (sAsg (gTupT 2 (gsCons (gFz (gStB 6 2)) (gsCons (gFz (gStB 6 3)) gsNil))) (vB (eTup (aCons (eBin gIx (eVarB 1) (eVarB 3)) (aCons (eBin gIx (eVarB 1) (eVarB 2)) aNil))))) (sRet (vB (eB fTuple (aCons (eVarB 6) aNil))))) sNx)
abbrev md11 : VL → RSU := (sAsg (gNf 7) (vB (eLc (CC.CTg.pr 12 13) (iEnm (eVarB 1)) (tAndT (tVal (eIsi (CC.qInt []) (eVarB 13))) (tVal (eChain gLtB gLtB (eVarB 12) (eVarB 13) (eB fLen (aCons (eVarB 1) aNil))))) (eTup (aCons (eVarB 12) (aCons (eVarB 13) aNil))))))
abbrev md12 : VL → RSU := (sIf (tB (tVal (eBin gEq (eVarB 7) (eLst aNil)))) (sRet (vB (eBin gAdd (eVarB 1) (eTup (aCons (eC .non) aNil))))) sNx)
abbrev md13 : VL → RSU := (sPar2 (gNf 8) (gNf 9) (aCons (eBin gIx (eVarN 7) (eCallM 0 u__law_take [] (aCons (vB (eB fLen (aCons (eVarB 7) aNil))) aNil))) (aCons (eBin gIx (eVarN 7) (eCallM 0 u__law_take [] (aCons (vB (eB fLen (aCons (eVarB 7) aNil))) aNil))) aNil)))
abbrev md14 : VL → RSU := (sFor (gTupT 2 (gsCons (gNf 10) (gsCons (gNf 11) gsNil))) (iSeq (vB (eLst (aCons (eTup (aCons (eBin gIx (eVarB 8) (eC (.int 0))) (aCons (eBin gIx (eVarB 9) (eC (.int 0))) aNil))) (aCons (eTup (aCons (eBin gIx (eVarB 8) (eC (.int 1))) (aCons (eBin gIx (eVarB 9) (eC (.int 1))) aNil))) aNil))))) v__law_modified_b1)
abbrev md15 : VL → RSU := (sRet (vB (eB fTuple (aCons (eVarB 6) aNil))))
abbrev mdt15 : VL → RSU := md15
abbrev mdt14 : VL → RSU := sSeq md14 mdt15
abbrev mdt13 : VL → RSU := sSeq md13 mdt14
abbrev mdt12 : VL → RSU := sSeq md12 mdt13
abbrev mdt11 : VL → RSU := sSeq md11 mdt12
abbrev mdt10 : VL → RSU := sSeq md10 mdt11
abbrev mdt9 : VL → RSU := sSeq md9 mdt10
abbrev mdt8 : VL → RSU := sSeq md8 mdt9
abbrev mdt7 : VL → RSU := sSeq md7 mdt8
abbrev mdt6 : VL → RSU := sSeq md6 mdt7
abbrev mdt5 : VL → RSU := sSeq md5 mdt6
abbrev mdt4 : VL → RSU := sSeq md4 mdt5
abbrev mdt3 : VL → RSU := sSeq md3 mdt4
def okE : En → Prop
  | .i z => z = -1 ∨ z = 100000000000000000000 ∨ (0 ≤ z ∧ z < 100)
  | _ => True
abbrev P' (a b : Int) : U := .lst .o [.int a, .int b]
def mS (a b : Int) (xs : List En) (x2 x3 x4 x5 x6 x7 x8 x9 x10 x11 : Option U) : VL := [some (P' a b), some (T xs), x2, x3, x4, x5, x6, x7, x8, x9, x10, x11, none, none]
theorem cut_lo (xs : List En) (p : Nat) : gSl (T xs) none (some (p : Int)) = some (T (xs.take p)) := by
  show some (U.tup (cutU (xs.map En.u) _ _)) = _
  unfold cutU T
  rw [HT.sIx_nat, HT.sIx_none, List.length_map, List.drop_zero, Nat.sub_zero, List.map_take]
  congr 2
  rw [List.take_eq_take_iff]
  simp
theorem cut_hi (xs : List En) (p : Nat) : gSl (T xs) (some (p : Int)) none = some (T (xs.drop p)) := by
  show some (U.tup (cutU (xs.map En.u) _ _)) = _
  unfold cutU T
  rw [HT.sIx_nat, HT.sIx_none, List.map_drop]
  congr 2
  rw [List.take_of_length_le (by simp)]
  by_cases h : p ≤ (xs.map En.u).length
  · rw [Nat.min_eq_left h]
  · rw [Nat.min_eq_right (by omega), List.drop_length, List.drop_eq_nil_of_le (by omega)]
theorem add_T (a b : List En) (h : a.length + b.length ≤ 1000) : gAdd (T a) (T b) = some (T (a ++ b)) := by
  show (if (a.map En.u).length + (b.map En.u).length ≤ 1000000 then some (U.tup (a.map En.u ++ b.map En.u)) else none) = _
  rw [if_pos (by rw [List.length_map, List.length_map]; omega), ← List.map_append]
  rfl
theorem tup1 {m : VL → RU U} {v v1 : VL} {e : En} (h : m v = .ok e.u v1) : CV.eTup (CV.aCons m CV.aNil) v = .ok (T [e]) v1 := by
  have := St.tup (us := [e.u]) (St.cons h St.nil) (Nat.le_of_ble_eq_true rfl) (by show (noB e.u && true) = true; rw [e.nb]; rfl)
  have q : ([e.u].map frz) = [e.u] := by show [frz e.u] = _; rw [e.fr]
  rw [q] at this
  exact this
theorem ixL {z : Fl} {ys : List En} {k : Nat} {e : En} (h : ys[k]? = some e) : gIx (.lst z (ys.map En.u)) (wi k) = some e.u := by
  show (getI (ys.map En.u) (.int (k : Int))).map (itm z) = _
  have : getI (ys.map En.u) (.int (k : Int)) = some e.u := atI_nat (by rw [List.getElem?_map, h]; rfl)
  rw [this]
  show some (itm z e.u) = _
  cases z
  · rfl
  · show some (frz e.u) = _; rw [e.fr]
  · show some (bor e.u) = _; rw [e.bo]
theorem stB {i k : Nat} {v : VL} {ys : List En} {j : Nat} {e e' : En} (hi : v[i]? = some (some (.lst .o (ys.map En.u)))) (hk : v[k]? = some (some e.u)) (hj : uIB e.u = some (j : Int)) (h : j < ys.length) : CV.gFz (gStB i k) e'.u v = some (v.set i (some (.lst .o ((ys.set j e').map En.u)))) := by
  refine St.fz ?_
  rw [e'.fr]
  unfold gStB
  rw [hi]
  dsimp only
  refine St.st (j := .int (j : Int)) (o := .lst .o (ys.map En.u)) ⟨_, hi⟩ (St.un (St.varN hk e.no) (by unfold gBI; rw [hj])) hi ?_
  unfold setO
  dsimp only
  have ix : ixN (ys.map En.u).length (j : Int) = some j := by
    rw [List.length_map]
    unfold ixN
    rw [if_pos (by omega), if_pos (by omega), Int.toNat_natCast]
  rw [ix]
  dsimp only
  rw [if_pos e'.nb, List.map_set]
theorem tupL {z : Fl} (ys : List En) : fTuple [.lst z (ys.map En.u)] = some (T ys) := by
  have o : (ys.map En.u).all noO = true := List.all_eq_true.mpr fun x m => by
    obtain ⟨e, _, rfl⟩ := List.mem_map.mp m
    exact e.no
  have g : ∀ f : U → U, (∀ e : En, f e.u = e.u) → (ys.map En.u).map f = ys.map En.u := fun f hf => by
    rw [List.map_map]
    exact List.map_congr_left fun x _ => hf x
  have fin : itmsU (.lst z (ys.map En.u)) = some (ys.map En.u) := by
    cases z
    · rfl
    · show some ((ys.map En.u).map frz) = _; rw [g _ En.fr]
    · show some ((ys.map En.u).map bor) = _; rw [g _ En.bo]
  unfold fTuple
  dsimp only
  rw [fin]
  dsimp only
  rw [En.all, o]; rfl
theorem listT (ys : List En) : fList [T ys] = some (.lst .o (ys.map En.u)) := by
  show (if (ys.map En.u).all noB then some (U.lst .o (ys.map En.u)) else none) = _
  rw [En.all]; rfl
def pF (xs : List En) (x : Nat) : U := .tup [wi x, (hx xs x).u]
theorem pF_nil (xs : List En) (z : Fl) (L : List Nat) : gEq (.lst z (L.map (pF xs))) (.lst .o []) = some (.bl (decide (L = []))) := by
  cases L with
  | nil => cases z <;> rfl
  | cons a l =>
    have m : ∀ (l : List Nat), CC.mapO (datU 11) (l.map (pF xs)) = some (l.map fun (x : Nat) => .tuple [.int (x : Int), (hx xs x).d]) := fun l => by
      induction l with
      | nil => rfl
      | cons a l ih =>
        rw [List.map_cons]
        unfold CC.mapO
        have : datU 11 (pF xs a) = some (.tuple [.int (a : Int), (hx xs a).d]) := by
          show (match CC.mapO (datU 10) [wi a, (hx xs a).u] with | some ds => some (PyData.tuple ds) | none => none) = _
          unfold CC.mapO
          have d0 : datU 10 (wi a) = some (.int (a : Int)) := rfl
          rw [d0]
          dsimp only
          unfold CC.mapO
          rw [(hx xs a).dat 8]
          rfl
        rw [this, ih]; rfl
    have e : gEqB (.lst z ((a :: l).map (pF xs))) (.lst .o []) = some false := by
      show gEqD _ _ = _
      unfold gEqD
      have d1 : datU 12 (.lst z ((a :: l).map (pF xs))) = some (.list ((a :: l).map fun (x : Nat) => .tuple [.int (x : Int), (hx xs x).d])) := by
        show (match CC.mapO (datU 11) ((a :: l).map (pF xs)) with | some ds => some (PyData.list ds) | none => none) = _
        rw [m]
      have d0 : datU 12 (.lst .o []) = some (.list []) := rfl
      rw [d1, d0]
      dsimp only
      have sh : SeqAt.shaped (.list ((a :: l).map fun (x : Nat) => PyData.tuple [.int (x : Int), (hx xs x).d])) = true := shaped_of (dOk_list (k := 3) fun d md => by
        obtain ⟨x, _, rfl⟩ := List.mem_map.mp md
        refine dOk_tup fun d m2 => ?_
        simp only [List.mem_cons, List.not_mem_nil, or_false] at m2
        rcases m2 with rfl | rfl
        · rfl
        · exact (hx xs x).dOk2) (by decide)
      rw [sh]
      rfl
    unfold gEq
    rw [e]; rfl
theorem ixP (xs : List En) {z : Fl} {L : List Nat} {k x : Nat} (h : L[k]? = some x) : gIx (.lst z (L.map (pF xs))) (wi k) = some (pF xs x) := by
  show (getI (L.map (pF xs)) (.int (k : Int))).map (itm z) = _
  have : getI (L.map (pF xs)) (.int (k : Int)) = some (pF xs x) := atI_nat (by rw [List.getElem?_map, h]; rfl)
  rw [this]
  cases z <;> rfl
def pP (xs : List En) (x : Nat) : Bool := isI (hx xs x) && inb x xs.length (hx xs x)
theorem pP_ok {xs : List En} {x : Nat} (h : pP xs x = true) : ∃ k : Nat, uIB (hx xs x).u = some (k : Int) ∧ x < k ∧ k < xs.length := by
  unfold pP at h
  rw [Bool.and_eq_true] at h
  cases e : hx xs x with
  | i y =>
    rw [e] at h
    have h := h.2
    unfold inb at h
    dsimp only at h
    rw [Bool.and_eq_true] at h
    have a := of_decide_eq_true h.1
    have b := of_decide_eq_true h.2
    obtain ⟨k, rfl⟩ := Int.eq_ofNat_of_zero_le (show 0 ≤ y by omega)
    exact ⟨k, rfl, by omega, by omega⟩
  | b v =>
    rw [e] at h
    have h := h.2
    unfold inb at h
    dsimp only at h
    rw [Bool.and_eq_true] at h
    have a := of_decide_eq_true h.1
    have b := of_decide_eq_true h.2
    cases v with
    | true => exact ⟨1, rfl, by have : b2i true = 1 := rfl; omega, by have : b2i true = 1 := rfl; omega⟩
    | false => exact ⟨0, rfl, by have : b2i false = 0 := rfl; omega, by have : b2i false = 0 := rfl; omega⟩
  | n => rw [e] at h; exact absurd h.1 (by decide)
  | s => rw [e] at h; exact absurd h.1 (by decide)
  | t => rw [e] at h; exact absurd h.1 (by decide)
theorem pc_ok {xs : List En} (hl : xs.length ≤ 1000) (a b : Int) (x2 x3 x4 x5 x6 x7 x8 x9 x10 x11 : Option U) : (eLc (CC.CTg.pr 12 13) (iEnm (eVarB 1)) (tAndT (tVal (eIsi (CC.qInt []) (eVarB 13))) (tVal (eChain gLtB gLtB (eVarB 12) (eVarB 13) (eB fLen (aCons (eVarB 1) aNil))))) (eTup (aCons (eVarB 12) (aCons (eVarB 13) aNil)))) (mS a b xs x2 x3 x4 x5 x6 x7 x8 x9 x10 x11) = .ok (.lst .o (((List.range' 0 xs.length).filter (pP xs)).map (pF xs))) (mS a b xs x2 x3 x4 x5 x6 x7 x8 x9 x10 x11) := by
  obtain ⟨v, hv⟩ : ∃ v : Nat → VL, v = fun x => [some (P' a b), some (T xs), x2, x3, x4, x5, x6, x7, x8, x9, x10, x11, some (wi x), some (hx xs x).u] := ⟨_, rfl⟩
  refine lcA (ct := CC.CTg.pr 12 13) (enc := fun x => .tup [wi x, (hx xs x).u]) (F := pF xs) (w := v) (p := pP xs) ?_ rfl rfl rfl (by simp; omega) fun x _ => ?_
  · rw [← en_ok]
    exact St.ienm (St.varB (i := 1) (u := T xs) rfl) (T_items xs) (En.all xs)
  have v12 : eVarB 12 (v x) = .ok (wi x) (v x) := by rw [hv]; exact St.varB (i := 12) (u := wi x) rfl
  have v13 : eVarB 13 (v x) = .ok (hx xs x).u (v x) := by
    have := St.varB (i := 13) (u := (hx xs x).u) (v := v x) (by rw [hv]; rfl)
    rw [(hx xs x).bo] at this; exact this
  have ln : CV.eB fLen (CV.aCons (eVarB 1) CV.aNil) (v x) = .ok (wi xs.length) (v x) := St.eb1 (by rw [hv]; exact St.varB (i := 1) (u := T xs) rfl) (T_len xs)
  refine ⟨?_, ?_, fun _ => ⟨?_, rfl⟩, ?_⟩
  · rw [hv]; rfl
  · have ch : ∀ y : Int, uIB (hx xs x).u = some y → CV.eChain gLtB gLtB (eVarB 12) (eVarB 13) (CV.eB fLen (CV.aCons (eVarB 1) CV.aNil)) (v x) = .ok (.bl (decide ((x : Int) < y) && decide (y < (xs.length : Int)))) (v x) := fun y hy => by
      have l1 : gLtB (wi x) (hx xs x).u = some (.bl (decide ((x : Int) < y))) := by unfold gLtB; rw [hy]; rfl
      have l2 : gLtB (hx xs x).u (wi xs.length) = some (.bl (decide (y < (xs.length : Int)))) := by unfold gLtB; rw [hy]; rfl
      by_cases q : (x : Int) < y
      · rw [decide_eq_true q] at l1 ⊢
        rw [Bool.true_and]
        exact St.chainT v12 v13 l1 ln l2
      · rw [decide_eq_false q] at l1 ⊢
        exact St.chainF v12 v13 l1
    unfold pP
    generalize hx xs x = e at v13 ch ⊢
    cases e with
    | i y => exact St.tAndTT (St.tv (b := true) (St.isi v13 rfl)) (St.tv (ch y rfl))
    | b w => exact St.tAndTT (St.tv (b := true) (St.isi v13 rfl)) (St.tv (ch (b2i w) rfl))
    | n => exact St.tAndTF (St.tv (b := false) (St.isi v13 rfl))
    | s => exact St.tAndTF (St.tv (b := false) (St.isi v13 rfl))
    | t => exact St.tAndTF (St.tv (b := false) (St.isi v13 rfl))
  · have := St.tup (us := [wi x, (hx xs x).u]) (St.cons v12 (St.cons v13 St.nil)) (Nat.le_of_ble_eq_true rfl) (by show (true && (noB (hx xs x).u && true)) = true; rw [(hx xs x).nb]; rfl)
    have q : ([wi x, (hx xs x).u].map frz) = [wi x, (hx xs x).u] := by show [wi x, frz (hx xs x).u] = _; rw [(hx xs x).fr]
    rw [q] at this
    exact this
  · rw [hv]; rfl
theorem pw20 : gPow (.int 10) (.int 20) = some (.int 100000000000000000000) := rfl
theorem mod_ok {a b : Int} (ha : 0 ≤ a) (hb : 0 ≤ b) {xs : List En} (h1 : 1 ≤ xs.length) (hl : xs.length ≤ 90) (ok : ∀ e ∈ xs, okE e) :
    ∃ a' b' ys, 0 ≤ a' ∧ 0 ≤ b' ∧ ys.length ≤ xs.length + 1 ∧ (∀ e ∈ ys, okE e) ∧ u__law_modified [P' a b, T xs] = .ok (T ys) (P' a' b') := by
  obtain ⟨a1, b1, p, ha1, hb1, hp, k1⟩ := pl_take a b xs.length ha hb (by omega) (by omega)
  obtain ⟨a2, b2, q, ha2, hb2, hq, k2⟩ := pl_take a1 b1 xs.length ha1 hb1 (by omega) (by omega)
  obtain ⟨a3, b3, k, ha3, hb3, hk, k3⟩ := pl_take a2 b2 9 ha2 hb2 (by decide) (by decide)
  have okW : ∀ n : Nat, n < 100 → okE (.i (n : Int)) := fun n h => .inr (.inr ⟨by omega, by omega⟩)
  obtain ⟨ep, hep⟩ : ∃ e, xs[p]? = some e := ⟨xs[p], List.getElem?_eq_getElem hp⟩
  obtain ⟨eq, heq⟩ : ∃ e, xs[q]? = some e := ⟨xs[q], List.getElem?_eq_getElem hq⟩
  have mp : ep ∈ xs := List.mem_of_getElem? hep
  have mq : eq ∈ xs := List.mem_of_getElem? heq
  have v1 : ∀ a b x2 x3 x4 x5 x6 x7 x8 x9 x10 x11, eVarB 1 (mS a b xs x2 x3 x4 x5 x6 x7 x8 x9 x10 x11) = .ok (T xs) (mS a b xs x2 x3 x4 x5 x6 x7 x8 x9 x10 x11) := fun _ _ _ _ _ _ _ _ _ _ _ _ => St.varB (i := 1) (u := T xs) rfl
  have ln : ∀ a b x2 x3 x4 x5 x6 x7 x8 x9 x10 x11, CV.eB fLen (CV.aCons (eVarB 1) CV.aNil) (mS a b xs x2 x3 x4 x5 x6 x7 x8 x9 x10 x11) = .ok (wi xs.length) (mS a b xs x2 x3 x4 x5 x6 x7 x8 x9 x10 x11) := fun a b x2 x3 x4 x5 x6 x7 x8 x9 x10 x11 => St.eb1 (v1 a b x2 x3 x4 x5 x6 x7 x8 x9 x10 x11) (T_len xs)
  -- the three draws
  have tk : ∀ {a b a' b' : Int} {n r : Nat} {m : VL → RU U} {x2 x3 x4 x5 x6 x7 x8 x9 x10 x11}, m (mS a b xs x2 x3 x4 x5 x6 x7 x8 x9 x10 x11) = .ok (wi n) (mS a b xs x2 x3 x4 x5 x6 x7 x8 x9 x10 x11) → u__law_take [.lst .o [.int a, .int b], wi n] = .ok (wi r) (.lst .o [.int a', .int b']) → CV.eCallM 0 u__law_take [] (CV.aCons m CV.aNil) (mS a b xs x2 x3 x4 x5 x6 x7 x8 x9 x10 x11) = .ok (wi r) (mS a' b' xs x2 x3 x4 x5 x6 x7 x8 x9 x10 x11) := fun hm ht =>
    St.callM (i := 0) (o := P' _ _) ⟨_, rfl⟩ (St.cons hm St.nil) rfl ht
  have s1 : md1 (mS a b xs none none none none none none none none none none) = .nx (mS a2 b2 xs (some (wi p)) (some (wi q)) none none none none none none none none) :=
    St.par2 (x := wi p) (y := wi q) (v1 := mS a2 b2 xs none none none none none none none none none none) (v2 := mS a2 b2 xs (some (wi p)) none none none none none none none none none) (St.cons (tk (St.vb (ln _ _ _ _ _ _ _ _ _ _ _ _) rfl) k1) (St.cons (tk (St.vb (ln _ _ _ _ _ _ _ _ _ _ _ _) rfl) k2) St.nil)) rfl rfl
  have s2 : md2 (mS a2 b2 xs (some (wi p)) (some (wi q)) none none none none none none none none) = .nx (mS a3 b3 xs (some (wi p)) (some (wi q)) (some (wi k)) none none none none none none none) :=
    St.asgF (i := 4) (u := wi k) (tk (n := 9) St.c k3)
  obtain ⟨S, hS⟩ : ∃ S : Int → Int → Option U → Option U → VL, S = fun a b x5 x6 => mS a b xs (some (wi p)) (some (wi q)) (some (wi k)) x5 x6 none none none none none := ⟨_, rfl⟩
  have w1 : ∀ a b x5 x6, eVarB 1 (S a b x5 x6) = .ok (T xs) (S a b x5 x6) := fun _ _ _ _ => by rw [hS]; exact v1 _ _ _ _ _ _ _ _ _ _ _ _
  have w2 : ∀ a b x5 x6, eVarB 2 (S a b x5 x6) = .ok (wi p) (S a b x5 x6) := fun _ _ _ _ => by rw [hS]; exact St.varB (i := 2) (u := wi p) rfl
  have w3 : ∀ a b x5 x6, eVarB 3 (S a b x5 x6) = .ok (wi q) (S a b x5 x6) := fun _ _ _ _ => by rw [hS]; exact St.varB (i := 3) (u := wi q) rfl
  have sA : ∀ a b x5 x6, CV.eSl (eVarB 1) CV.oNo (CV.oSo (eVarB 2)) (S a b x5 x6) = .ok (T (xs.take p)) (S a b x5 x6) := fun _ _ _ _ => St.sl (lo := none) (hi := some (p : Int)) (w1 _ _ _ _) rfl (St.so (w2 _ _ _ _)) (cut_lo xs p)
  have sB : ∀ a b x5 x6, CV.eSl (eVarB 1) (CV.oSo (CV.eBin gAdd (eVarB 2) (eC (.int 1)))) CV.oNo (S a b x5 x6) = .ok (T (xs.drop (p + 1))) (S a b x5 x6) := fun _ _ _ _ => St.sl (lo := some ((p + 1 : Nat) : Int)) (hi := none) (w1 _ _ _ _) (St.so (St.bin (y := wi 1) (w2 _ _ _ _) St.c (Q.add p 1))) rfl (cut_hi xs (p + 1))
  have sC : ∀ a b x5 x6, CV.eSl (eVarB 1) (CV.oSo (eVarB 2)) CV.oNo (S a b x5 x6) = .ok (T (xs.drop p)) (S a b x5 x6) := fun _ _ _ _ => St.sl (lo := some (p : Int)) (hi := none) (w1 _ _ _ _) (St.so (w2 _ _ _ _)) rfl (cut_hi xs p)
  have t4 : ∀ (n : Nat) (bb : Bool), decide (k = n) = bb → ∀ a b x5 x6, CV.tB (tVal (CV.eBin gEq (eVarB 4) (eC (.int (n : Int))))) (S a b x5 x6) = .ok bb (S a b x5 x6) := fun n bb h a b x5 x6 => by
    rw [← h, hS]
    exact St.tb (St.tv (St.bin (y := wi n) (St.varB (i := 4) (u := wi k) rfl) St.c (Q.eq k n)))
  have pre : ∀ {r}, mdt3 (S a3 b3 none none) = r → v__law_modified (mS a b xs none none none none none none none none none none) = r := fun h => by
    rw [hS] at h
    exact (St.nx s1).trans ((St.nx s2).trans h)
  have out0 : ∀ a b x5 x6, outO 0 (S a b x5 x6) = some (P' a b) := fun _ _ _ _ => by rw [hS]; rfl
  have fin : ∀ {a' b' : Int} {ys : List En} {x5 x6 : Option U}, 0 ≤ a' → 0 ≤ b' → ys.length ≤ xs.length + 1 → (∀ e ∈ ys, okE e) → mdt3 (S a3 b3 none none) = .ret (T ys) (S a' b' x5 x6) →
      ∃ a' b' ys, 0 ≤ a' ∧ 0 ≤ b' ∧ ys.length ≤ xs.length + 1 ∧ (∀ e ∈ ys, okE e) ∧ u__law_modified [P' a b, T xs] = .ok (T ys) (P' a' b') := fun h1 h2 h3 h4 h5 =>
    ⟨_, _, _, h1, h2, h3, h4, St.fnM_ret rfl rfl (pre h5) (out0 _ _ _ _)⟩
  have okT : ∀ n, ∀ e ∈ xs.take n, okE e := fun n e m => ok e (List.mem_of_mem_take m)
  have okD : ∀ n, ∀ e ∈ xs.drop n, okE e := fun n e m => ok e (List.mem_of_mem_drop m)
  have okA : ∀ {l m : List En}, (∀ e ∈ l, okE e) → (∀ e ∈ m, okE e) → ∀ e ∈ l ++ m, okE e := fun h1 h2 e m => (List.mem_append.mp m).elim (h1 e) (h2 e)
  have ok1 : ∀ {e : En}, okE e → ∀ x ∈ [e], okE x := fun h x m => by simp at m; rw [m]; exact h
  have okS : ∀ {l : List En} {j : Nat} {e : En}, (∀ e ∈ l, okE e) → okE e → ∀ x ∈ l.set j e, okE x := fun h1 h2 x m => by
    rcases List.mem_or_eq_of_mem_set m with m | m
    · exact h1 x m
    · rw [m]; exact h2
  -- one entry in another's place
  have put : ∀ {a b : Int} {x5 x6 : Option U} {m : VL → RU U} {e : En}, m (S a b x5 x6) = .ok e.u (S a b x5 x6) → CV.sRet (CV.vB (CV.eBin gAdd (CV.eBin gAdd (CV.eSl (eVarB 1) CV.oNo (CV.oSo (eVarB 2))) (CV.eTup (CV.aCons m CV.aNil))) (CV.eSl (eVarB 1) (CV.oSo (CV.eBin gAdd (eVarB 2) (eC (.int 1)))) CV.oNo))) (S a b x5 x6) = .ret (T (xs.take p ++ [e] ++ xs.drop (p + 1))) (S a b x5 x6) := fun hm =>
    St.ret (St.vb (St.bin (St.bin (sA _ _ _ _) (tup1 hm) (add_T _ _ (by simp; omega))) (sB _ _ _ _) (add_T _ _ (by simp; omega))) rfl) rfl
  have putL : ∀ e : En, (xs.take p ++ [e] ++ xs.drop (p + 1)).length ≤ xs.length + 1 := fun e => by simp; omega
  by_cases q0 : k = 0
  · obtain ⟨a4, b4, j, ha4, hb4, hj, k4⟩ := pl_take a3 b3 7 ha3 hb3 (by decide) (by decide)
    obtain ⟨L, hL⟩ : ∃ L : List En, L = [.i (xs.length : Int), .i (-1), .b true, .b false, .s, .t, .i 100000000000000000000] := ⟨_, rfl⟩
    have lL : L.length = 7 := by rw [hL]; rfl
    obtain ⟨e, he⟩ : ∃ e, L[j]? = some e := ⟨L[j], List.getElem?_eq_getElem (by omega)⟩
    have oke : okE e := by
      have m : e ∈ L := List.mem_of_getElem? he
      rw [hL] at m
      simp only [List.mem_cons, List.not_mem_nil, or_false] at m
      rcases m with rfl | rfl | rfl | rfl | rfl | rfl | rfl
      · exact okW _ (by omega)
      · exact .inl rfl
      · trivial
      · trivial
      · trivial
      · trivial
      · exact .inr (.inl rfl)
    have lst : CV.vB (eLst (aCons (eB fLen (aCons (eVarB 1) aNil)) (aCons (eUn gNeg (eC (.int 1))) (aCons (eC (.bl true)) (aCons (eC (.bl false)) (aCons (eC (.str "0")) (aCons (eTup (aCons (eC (.int 0)) aNil)) (aCons (eBin gPow (eC (.int 10)) (eC (.int 20))) aNil)))))))) (S a3 b3 none none) = .ok (.lst .o (L.map En.u)) (S a3 b3 none none) := by
      rw [hL]
      have i1 : CV.eB fLen (CV.aCons (eVarB 1) CV.aNil) (S a3 b3 none none) = .ok (wi xs.length) (S a3 b3 none none) := by rw [hS]; exact ln _ _ _ _ _ _ _ _ _ _ _ _
      have i2 : CV.eUn gNeg (eC (.int 1)) (S a3 b3 none none) = .ok (.int (-1)) (S a3 b3 none none) := St.un (x := .int 1) St.c rfl
      have i3 : CV.eTup (CV.aCons (eC (.int 0)) CV.aNil) (S a3 b3 none none) = .ok (.tup [.int 0]) (S a3 b3 none none) := St.tup (us := [.int 0]) (St.cons St.c St.nil) (Nat.le_of_ble_eq_true rfl) rfl
      have i4 : CV.eBin gPow (eC (.int 10)) (eC (.int 20)) (S a3 b3 none none) = .ok (.int 100000000000000000000) (S a3 b3 none none) := St.bin (x := .int 10) (y := .int 20) St.c St.c pw20
      exact St.vb (v1 := S a3 b3 none none) (St.lst (us := [wi xs.length, .int (-1), .bl true, .bl false, .str "0", .tup [.int 0], .int 100000000000000000000]) (St.cons i1 (St.cons i2 (St.cons St.c (St.cons St.c (St.cons St.c (St.cons i3 (St.cons i4 St.nil))))))) (Nat.le_of_ble_eq_true rfl) rfl) rfl
    have c5 : CV.sAsg (gNf 5) (CV.eBin gIx (CV.vB (eLst (aCons (eB fLen (aCons (eVarB 1) aNil)) (aCons (eUn gNeg (eC (.int 1))) (aCons (eC (.bl true)) (aCons (eC (.bl false)) (aCons (eC (.str "0")) (aCons (eTup (aCons (eC (.int 0)) aNil)) (aCons (eBin gPow (eC (.int 10)) (eC (.int 20))) aNil))))))))) (CV.eCallM 0 u__law_take [] (CV.aCons (eC (.int 7)) CV.aNil))) (S a3 b3 none none) = .nx (S a4 b4 (some e.u) none) := by
      have tk7 : CV.eCallM 0 u__law_take [] (CV.aCons (eC (.int 7)) CV.aNil) (S a3 b3 none none) = .ok (wi j) (S a4 b4 none none) := by rw [hS]; exact tk (n := 7) St.c k4
      have := St.asgF (i := 5) (u := e.u) (St.bin lst tk7 (ixL he))
      rw [e.fr, hS] at this
      rw [hS]
      exact this
    have v5 : eVarB 5 (S a4 b4 (some e.u) none) = .ok e.u (S a4 b4 (some e.u) none) := by
      have := St.varB (i := 5) (u := e.u) (v := S a4 b4 (some e.u) none) (by rw [hS]; rfl)
      rw [e.bo] at this; exact this
    exact fin ha4 hb4 (putL e) (okA (okA (okT _) (ok1 oke)) (okD _)) (St.seqR ((St.ift (t4 0 true (decide_eq_true q0) _ _ _ _)).trans ((St.nx c5).trans (put v5))))
  have n3 : ∀ a b x5 x6, md3 (S a b x5 x6) = .nx (S a b x5 x6) := fun a b x5 x6 => (St.iff (t4 0 false (decide_eq_false q0) _ _ _ _)).trans rfl
  by_cases q1 : k = 1
  · exact fin ha3 hb3 (putL .n) (okA (okA (okT _) (ok1 trivial)) (okD _)) ((St.nx (n3 _ _ _ _)).trans (St.seqR ((St.ift (t4 1 true (decide_eq_true q1) _ _ _ _)).trans (put (e := .n) St.c))))
  have n4 : ∀ a b x5 x6, md4 (S a b x5 x6) = .nx (S a b x5 x6) := fun a b x5 x6 => (St.iff (t4 1 false (decide_eq_false q1) _ _ _ _)).trans rfl
  by_cases q2 : k = 2
  · exact fin ha3 hb3 (putL (.i (q : Int))) (okA (okA (okT _) (ok1 (okW q (by omega)))) (okD _)) ((St.nx (n3 _ _ _ _)).trans ((St.nx (n4 _ _ _ _)).trans (St.seqR ((St.ift (t4 2 true (decide_eq_true q2) _ _ _ _)).trans (put (e := .i (q : Int)) (w3 _ _ _ _))))))
  have n5 : ∀ a b x5 x6, md5 (S a b x5 x6) = .nx (S a b x5 x6) := fun a b x5 x6 => (St.iff (t4 2 false (decide_eq_false q2) _ _ _ _)).trans rfl
  by_cases q3 : k = 3
  · refine fin ha3 hb3 (ys := xs.take p ++ xs.drop (p + 1)) (by simp; omega) (okA (okT _) (okD _)) ((St.nx (n3 _ _ _ _)).trans ((St.nx (n4 _ _ _ _)).trans ((St.nx (n5 _ _ _ _)).trans (St.seqR ((St.ift (t4 3 true (decide_eq_true q3) _ _ _ _)).trans (St.ret (St.vb (St.bin (sA _ _ _ _) (sB _ _ _ _) (add_T _ _ (by simp; omega))) rfl) rfl))))))
  have n6 : ∀ a b x5 x6, md6 (S a b x5 x6) = .nx (S a b x5 x6) := fun a b x5 x6 => (St.iff (t4 3 false (decide_eq_false q3) _ _ _ _)).trans rfl
  by_cases q4 : k = 4
  · obtain ⟨a4, b4, j, ha4, hb4, hj, k4⟩ := pl_take a3 b3 2 ha3 hb3 (by decide) (by decide)
    obtain ⟨L, hL⟩ : ∃ L : List En, L = [.n, .i (p : Int)] := ⟨_, rfl⟩
    have lL : L.length = 2 := by rw [hL]; rfl
    obtain ⟨e, he⟩ : ∃ e, L[j]? = some e := ⟨L[j], List.getElem?_eq_getElem (by omega)⟩
    have oke : okE e := by
      have m : e ∈ L := List.mem_of_getElem? he
      rw [hL] at m
      simp only [List.mem_cons, List.not_mem_nil, or_false] at m
      rcases m with rfl | rfl
      · trivial
      · exact okW _ (by omega)
    have lst : CV.vB (CV.eLst (CV.aCons (eC .non) (CV.aCons (eVarB 2) CV.aNil))) (S a3 b3 none none) = .ok (.lst .o (L.map En.u)) (S a3 b3 none none) := by
      rw [hL]
      exact St.vb (St.lst (us := [.non, wi p]) (St.cons St.c (St.cons (w2 _ _ _ _) St.nil)) (Nat.le_of_ble_eq_true rfl) rfl) rfl
    have tk2 : CV.eCallM 0 u__law_take [] (CV.aCons (eC (.int 2)) CV.aNil) (S a3 b3 none none) = .ok (wi j) (S a4 b4 none none) := by rw [hS]; exact tk (n := 2) St.c k4
    refine fin ha4 hb4 (ys := xs.take p ++ [e] ++ xs.drop p) (x5 := none) (x6 := none) (by simp; omega) (okA (okA (okT _) (ok1 oke)) (okD _)) ((St.nx (n3 _ _ _ _)).trans ((St.nx (n4 _ _ _ _)).trans ((St.nx (n5 _ _ _ _)).trans ((St.nx (n6 _ _ _ _)).trans (St.seqR ((St.ift (t4 4 true (decide_eq_true q4) _ _ _ _)).trans (St.ret (St.bin (St.bin (St.vb (sA _ _ _ _) rfl) (tup1 (St.bin lst tk2 (ixL he))) (add_T _ _ (by simp; omega))) (St.vb (sC _ _ _ _) rfl) (add_T _ _ (by simp; omega))) rfl)))))))
  have n7 : ∀ a b x5 x6, md7 (S a b x5 x6) = .nx (S a b x5 x6) := fun a b x5 x6 => (St.iff (t4 4 false (decide_eq_false q4) _ _ _ _)).trans rfl
  have s8 : md8 (S a3 b3 none none) = .nx (S a3 b3 none (some (.lst .o (xs.map En.u)))) := by
    have := St.asgM (i := 6) (u := .lst .o (xs.map En.u)) (St.vb (St.eb1 (w1 a3 b3 none none) (listT xs)) rfl)
    rw [hS] at this ⊢
    exact this
  have go8 : ∀ {r}, mdt9 (S a3 b3 none (some (.lst .o (xs.map En.u)))) = r → mdt3 (S a3 b3 none none) = r := fun h =>
    (St.nx (n3 _ _ _ _)).trans ((St.nx (n4 _ _ _ _)).trans ((St.nx (n5 _ _ _ _)).trans ((St.nx (n6 _ _ _ _)).trans ((St.nx (n7 _ _ _ _)).trans ((St.nx s8).trans h)))))
  have ret6 : ∀ (zs : List En), CV.sRet (CV.vB (CV.eB fTuple (CV.aCons (eVarB 6) CV.aNil))) (S a3 b3 none (some (.lst .o (zs.map En.u)))) = .ret (T zs) (S a3 b3 none (some (.lst .o (zs.map En.u)))) := fun zs => by
    refine St.ret (St.vb (St.eb1 (St.varB (i := 6) (u := .lst .o (zs.map En.u)) (by rw [hS]; rfl)) (tupL zs)) rfl) rfl
  have two : ∀ {m1 m2 : VL → RU U} {e1 e2 : En}, (m1 (S a3 b3 none (some (.lst .o (xs.map En.u)))) = .ok e1.u (S a3 b3 none (some (.lst .o (xs.map En.u))))) → (m2 (S a3 b3 none (some (.lst .o (xs.map En.u)))) = .ok e2.u (S a3 b3 none (some (.lst .o (xs.map En.u))))) →
      CV.sAsg (CV.gTupT 2 (CV.gsCons (CV.gFz (gStB 6 2)) (CV.gsCons (CV.gFz (gStB 6 3)) CV.gsNil))) (CV.vB (CV.eTup (CV.aCons m1 (CV.aCons m2 CV.aNil)))) (S a3 b3 none (some (.lst .o (xs.map En.u)))) = .nx (S a3 b3 none (some (.lst .o (((xs.set p e1).set q e2).map En.u)))) := fun {m1 m2 e1 e2} h1 h2 => by
    have tp := St.tup (us := [e1.u, e2.u]) (St.cons h1 (St.cons h2 St.nil)) (Nat.le_of_ble_eq_true rfl) (by show (noB e1.u && (noB e2.u && true)) = true; rw [e1.nb, e2.nb]; rfl)
    have qq : ([e1.u, e2.u].map frz) = [e1.u, e2.u] := by show [frz e1.u, frz e2.u] = _; rw [e1.fr, e2.fr]
    rw [qq] at tp
    refine St.asg (St.vb tp rfl) ?_
    refine St.gtup2 (v1 := S a3 b3 none (some (.lst .o ((xs.set p e1).map En.u)))) ?_ ?_
    · have := stB (i := 6) (k := 2) (v := S a3 b3 none (some (.lst .o (xs.map En.u)))) (ys := xs) (j := p) (e := .i (p : Int)) (e' := e1) (by rw [hS]; rfl) (by rw [hS]; rfl) rfl hp
      rw [this, hS]; rfl
    · have := stB (i := 6) (k := 3) (v := S a3 b3 none (some (.lst .o ((xs.set p e1).map En.u)))) (ys := xs.set p e1) (j := q) (e := .i (q : Int)) (e' := e2) (by rw [hS]; rfl) (by rw [hS]; rfl) rfl (by rw [List.length_set]; exact hq)
      rw [this, hS]; rfl
  by_cases q5 : k = 5
  · exact fin ha3 hb3 (ys := (xs.set p (.i (q : Int))).set q (.i (p : Int))) (by simp) (okS (okS ok (okW q (by omega))) (okW p (by omega))) (go8 (St.seqR ((St.ift (t4 5 true (decide_eq_true q5) _ _ _ _)).trans ((St.nx (two (e1 := .i (q : Int)) (e2 := .i (p : Int)) (w3 _ _ _ _) (w2 _ _ _ _))).trans (ret6 _)))))
  have n9 : ∀ a b x5 x6, md9 (S a b x5 x6) = .nx (S a b x5 x6) := fun a b x5 x6 => (St.iff (t4 5 false (decide_eq_false q5) _ _ _ _)).trans rfl
  by_cases q6 : k = 6
  · exact fin ha3 hb3 (ys := (xs.set p eq).set q ep) (by simp) (okS (okS ok (ok eq mq)) (ok ep mp)) (go8 ((St.nx (n9 _ _ _ _)).trans (St.seqR ((St.ift (t4 6 true (decide_eq_true q6) _ _ _ _)).trans ((St.nx (two (e1 := eq) (e2 := ep) (St.bin (w1 _ _ _ _) (w3 _ _ _ _) (T_ix heq)) (St.bin (w1 _ _ _ _) (w2 _ _ _ _) (T_ix hep)))).trans (ret6 _))))))
  have n10 : ∀ a b x5 x6, md10 (S a b x5 x6) = .nx (S a b x5 x6) := fun a b x5 x6 => (St.iff (t4 6 false (decide_eq_false q6) _ _ _ _)).trans rfl
  -- two pairs
  obtain ⟨L, hL⟩ : ∃ L, L = (List.range' 0 xs.length).filter (pP xs) := ⟨_, rfl⟩
  have lL : L.length ≤ 90 := by
    rw [hL]
    exact Nat.le_trans (List.length_filter_le ..) (by simp; omega)
  obtain ⟨R, hR⟩ : ∃ R : Int → Int → List En → Option U → Option U → Option U → Option U → VL, R = fun a b zs x8 x9 x10 x11 => mS a b xs (some (wi p)) (some (wi q)) (some (wi k)) none (some (.lst .o (zs.map En.u))) (some (.lst .s (L.map (pF xs)))) x8 x9 x10 x11 := ⟨_, rfl⟩
  have s11 : md11 (S a3 b3 none (some (.lst .o (xs.map En.u)))) = .nx (R a3 b3 xs none none none none) := by
    have := pc_ok (xs := xs) (by omega) a3 b3 (some (wi p)) (some (wi q)) (some (wi k)) none (some (.lst .o (xs.map En.u))) none none none none none
    rw [← hL] at this
    rw [hS, hR]
    exact St.asgF (i := 7) (u := .lst .o (L.map (pF xs))) (St.vb this rfl)
  have go11 : ∀ {r}, mdt12 (R a3 b3 xs none none none none) = r → mdt3 (S a3 b3 none none) = r := fun h => go8 ((St.nx (n9 _ _ _ _)).trans ((St.nx (n10 _ _ _ _)).trans ((St.nx s11).trans h)))
  have v7 : ∀ a b zs x8 x9 x10 x11, eVarB 7 (R a b zs x8 x9 x10 x11) = .ok (.lst .s (L.map (pF xs))) (R a b zs x8 x9 x10 x11) := fun _ _ _ _ _ _ _ => by rw [hR]; exact St.varB (i := 7) (u := .lst .s (L.map (pF xs))) rfl
  have t12 : CV.tB (tVal (CV.eBin gEq (eVarB 7) (CV.eLst CV.aNil))) (R a3 b3 xs none none none none) = .ok (decide (L = [])) (R a3 b3 xs none none none none) :=
    St.tb (St.tv (St.bin (y := .lst .o []) (v7 _ _ _ _ _ _ _) (St.lst (us := []) St.nil (Nat.zero_le _) rfl) (pF_nil xs .s L)))
  have finR : ∀ {a' b' : Int} {ys zs : List En} {x8 x9 x10 x11 : Option U}, 0 ≤ a' → 0 ≤ b' → ys.length ≤ xs.length + 1 → (∀ e ∈ ys, okE e) → mdt12 (R a3 b3 xs none none none none) = .ret (T ys) (R a' b' zs x8 x9 x10 x11) →
      ∃ a' b' ys, 0 ≤ a' ∧ 0 ≤ b' ∧ ys.length ≤ xs.length + 1 ∧ (∀ e ∈ ys, okE e) ∧ u__law_modified [P' a b, T xs] = .ok (T ys) (P' a' b') := fun h1 h2 h3 h4 h5 =>
    ⟨_, _, _, h1, h2, h3, h4, St.fnM_ret rfl rfl (pre (go11 h5)) (by rw [hR]; rfl)⟩
  by_cases ne : L = []
  · rw [decide_eq_true ne] at t12
    have w1' : eVarB 1 (R a3 b3 xs none none none none) = .ok (T xs) (R a3 b3 xs none none none none) := by rw [hR]; exact v1 _ _ _ _ _ _ _ _ _ _ _ _
    exact finR ha3 hb3 (ys := xs ++ [.n]) (by simp) (okA ok (ok1 (e := .n) trivial)) (St.seqR ((St.ift t12).trans (St.ret (St.vb (St.bin (y := T [.n]) w1' (tup1 (e := .n) St.c) (add_T _ _ (by simp; omega))) rfl) rfl)))
  rw [decide_eq_false ne] at t12
  have n12 : md12 (R a3 b3 xs none none none none) = .nx (R a3 b3 xs none none none none) := (St.iff t12).trans rfl
  have lp : 0 < L.length := List.length_pos_iff.mpr ne
  obtain ⟨a4, b4, i1, ha4, hb4, hi1, k4⟩ := pl_take a3 b3 L.length ha3 hb3 lp (by omega)
  obtain ⟨a5, b5, i2, ha5, hb5, hi2, k5⟩ := pl_take a4 b4 L.length ha4 hb4 lp (by omega)
  obtain ⟨c1, hc1⟩ : ∃ c, L[i1]? = some c := ⟨L[i1], List.getElem?_eq_getElem hi1⟩
  obtain ⟨c2, hc2⟩ : ∃ c, L[i2]? = some c := ⟨L[i2], List.getElem?_eq_getElem hi2⟩
  have inL : ∀ c ∈ L, c < xs.length ∧ pP xs c = true := fun c m => by
    rw [hL] at m
    obtain ⟨m1, m2⟩ := List.mem_filter.mp m
    exact ⟨by simpa using m1, m2⟩
  obtain ⟨l1, p1⟩ := inL c1 (List.mem_of_getElem? hc1)
  obtain ⟨l2, p2⟩ := inL c2 (List.mem_of_getElem? hc2)
  obtain ⟨y1, u1, _, m1⟩ := pP_ok p1
  obtain ⟨y2, u2, _, m2⟩ := pP_ok p2
  have ok1' : okE (hx xs c1) := ok _ (List.mem_of_getElem? (hx_get l1))
  have ok2' : okE (hx xs c2) := ok _ (List.mem_of_getElem? (hx_get l2))
  have tkL : ∀ {a b a' b' : Int} {r : Nat} {x8 x9 : Option U}, u__law_take [.lst .o [.int a, .int b], wi L.length] = .ok (wi r) (.lst .o [.int a', .int b']) → CV.eCallM 0 u__law_take [] (CV.aCons (CV.vB (CV.eB fLen (CV.aCons (eVarB 7) CV.aNil))) CV.aNil) (R a b xs x8 x9 none none) = .ok (wi r) (R a' b' xs x8 x9 none none) := fun {a b a' b' r x8 x9} h => by
    have q := St.eb1 (v7 a b xs x8 x9 none none) (Q.len .s (L.map (pF xs)))
    rw [List.length_map] at q
    refine St.callM (i := 0) (o := P' a b) ⟨P' a b, by rw [hR]; rfl⟩ (St.cons (St.vb q rfl) St.nil) (by rw [hR]; rfl) h |>.trans ?_
    rw [hR]; rfl
  have v7n : ∀ a b x8 x9, eVarN 7 (R a b xs x8 x9 none none) = .ok (.lst .s (L.map (pF xs))) (R a b xs x8 x9 none none) := fun _ _ _ _ => by rw [hR]; exact St.varN (i := 7) (u := .lst .s (L.map (pF xs))) rfl rfl
  have s13 : md13 (R a3 b3 xs none none none none) = .nx (R a5 b5 xs (some (pF xs c1)) (some (pF xs c2)) none none) := by
    refine St.par2 (x := pF xs c1) (y := pF xs c2) (v1 := R a5 b5 xs none none none none) (v2 := R a5 b5 xs (some (pF xs c1)) none none none) (St.cons (St.bin (v7n _ _ _ _) (tkL k4) (ixP xs hc1)) (St.cons (St.bin (v7n _ _ _ _) (tkL k5) (ixP xs hc2)) St.nil)) ?_ ?_
    · rw [hR]; rfl
    · rw [hR]; rfl
  obtain ⟨w, hw⟩ : ∃ w : List En → Option U → Option U → VL, w = fun zs x10 x11 => R a5 b5 zs (some (pF xs c1)) (some (pF xs c2)) x10 x11 := ⟨_, rfl⟩
  have w8 : ∀ zs x10 x11, eVarB 8 (w zs x10 x11) = .ok (pF xs c1) (w zs x10 x11) := fun _ _ _ => by rw [hw, hR]; exact St.varB (i := 8) (u := pF xs c1) rfl
  have w9 : ∀ zs x10 x11, eVarB 9 (w zs x10 x11) = .ok (pF xs c2) (w zs x10 x11) := fun _ _ _ => by rw [hw, hR]; exact St.varB (i := 9) (u := pF xs c2) rfl
  have it : CV.iSeq (CV.vB (eLst (aCons (eTup (aCons (eBin gIx (eVarB 8) (eC (.int 0))) (aCons (eBin gIx (eVarB 9) (eC (.int 0))) aNil))) (aCons (eTup (aCons (eBin gIx (eVarB 8) (eC (.int 1))) (aCons (eBin gIx (eVarB 9) (eC (.int 1))) aNil))) aNil)))) (w xs none none) = .ok [.tup [wi c1, wi c2], .tup [(hx xs c1).u, (hx xs c2).u]] (w xs none none) := by
    have t1 := St.tup (us := [wi c1, wi c2]) (v := w xs none none) (St.cons (St.bin (f := gIx) (x := pF xs c1) (y := .int 0) (z := wi c1) (w8 _ _ _) St.c rfl) (St.cons (St.bin (f := gIx) (x := pF xs c2) (y := .int 0) (z := wi c2) (w9 _ _ _) St.c rfl) St.nil)) (Nat.le_of_ble_eq_true rfl) rfl
    have t2 := St.tup (us := [(hx xs c1).u, (hx xs c2).u]) (v := w xs none none) (St.cons (St.bin (f := gIx) (x := pF xs c1) (y := .int 1) (z := (hx xs c1).u) (w8 _ _ _) St.c rfl) (St.cons (St.bin (f := gIx) (x := pF xs c2) (y := .int 1) (z := (hx xs c2).u) (w9 _ _ _) St.c rfl) St.nil)) (Nat.le_of_ble_eq_true rfl) (by show (noB (hx xs c1).u && (noB (hx xs c2).u && true)) = true; rw [(hx xs c1).nb, (hx xs c2).nb]; rfl)
    have qq : ([(hx xs c1).u, (hx xs c2).u].map frz) = [(hx xs c1).u, (hx xs c2).u] := by show [frz _, frz _] = _; rw [(hx xs c1).fr, (hx xs c2).fr]
    rw [qq] at t2
    exact St.iseq (u := .lst .o [.tup [wi c1, wi c2], .tup [(hx xs c1).u, (hx xs c2).u]]) (St.vb (St.lst (St.cons t1 (St.cons t2 St.nil)) (Nat.le_of_ble_eq_true rfl) rfl) rfl) rfl
  have turn : ∀ {zs : List En} {e1 e2 : En} {k1 k2 : Nat} (x10 x11 : Option U), zs.length = xs.length → uIB e1.u = some (k1 : Int) → k1 < xs.length → uIB e2.u = some (k2 : Int) → k2 < xs.length →
      CV.gTupT 2 (CV.gsCons (CV.gNf 10) (CV.gsCons (CV.gNf 11) CV.gsNil)) (.tup [e1.u, e2.u]) (w zs x10 x11) = some (w zs (some e1.u) (some e2.u)) ∧ v__law_modified_b1 (w zs (some e1.u) (some e2.u)) = .nx (w ((zs.set k1 e2).set k2 e1) (some e1.u) (some e2.u)) := fun {zs e1 e2 k1 k2} x10 x11 hz h1 h2 h3 h4 => by
    refine ⟨St.gtup2 (v1 := w zs (some e1.u) x11) ?_ ?_, ?_⟩
    · show some ((w zs x10 x11).set 10 (some (frz e1.u))) = _
      rw [e1.fr, hw, hR]; rfl
    · show some ((w zs (some e1.u) x11).set 11 (some (frz e2.u))) = _
      rw [e2.fr, hw, hR]; rfl
    · have g10 : eVarB 10 (w zs (some e1.u) (some e2.u)) = .ok e1.u (w zs (some e1.u) (some e2.u)) := by
        have := St.varB (i := 10) (u := e1.u) (v := w zs (some e1.u) (some e2.u)) (by rw [hw, hR]; rfl)
        rw [e1.bo] at this; exact this
      have g11 : eVarB 11 (w zs (some e1.u) (some e2.u)) = .ok e2.u (w zs (some e1.u) (some e2.u)) := by
        have := St.varB (i := 11) (u := e2.u) (v := w zs (some e1.u) (some e2.u)) (by rw [hw, hR]; rfl)
        rw [e2.bo] at this; exact this
      have tp := St.tup (us := [e2.u, e1.u]) (St.cons g11 (St.cons g10 St.nil)) (Nat.le_of_ble_eq_true rfl) (by show (noB e2.u && (noB e1.u && true)) = true; rw [e1.nb, e2.nb]; rfl)
      have qq : ([e2.u, e1.u].map frz) = [e2.u, e1.u] := by show [frz e2.u, frz e1.u] = _; rw [e1.fr, e2.fr]
      rw [qq] at tp
      refine St.asg (St.vb tp rfl) ?_
      refine St.gtup2 (v1 := w (zs.set k1 e2) (some e1.u) (some e2.u)) ?_ ?_
      · have := stB (i := 6) (k := 10) (v := w zs (some e1.u) (some e2.u)) (ys := zs) (j := k1) (e := e1) (e' := e2) (by rw [hw, hR]; rfl) (by rw [hw, hR]; rfl) h1 (by omega)
        rw [this, hw, hR]; rfl
      · have := stB (i := 6) (k := 11) (v := w (zs.set k1 e2) (some e1.u) (some e2.u)) (ys := zs.set k1 e2) (j := k2) (e := e2) (e' := e1) (by rw [hw, hR]; rfl) (by rw [hw, hR]; rfl) h3 (by rw [List.length_set]; omega)
        rw [this, hw, hR]; rfl
  obtain ⟨g1, b1'⟩ := turn (zs := xs) (e1 := .i (c1 : Int)) (e2 := .i (c2 : Int)) (k1 := c1) (k2 := c2) none none rfl rfl l1 rfl l2
  obtain ⟨zs, hzs⟩ : ∃ zs, zs = (xs.set c1 (.i (c2 : Int))).set c2 (.i (c1 : Int)) := ⟨_, rfl⟩
  have lz : zs.length = xs.length := by rw [hzs]; simp
  rw [← hzs] at b1'
  obtain ⟨g2, b2'⟩ := turn (zs := zs) (e1 := hx xs c1) (e2 := hx xs c2) (k1 := y1) (k2 := y2) (some (En.u (.i (c1 : Int)))) (some (En.u (.i (c2 : Int)))) lz u1 m1 u2 m2
  have s14 : md14 (w xs none none) = .nx (w ((zs.set y1 (hx xs c2)).set y2 (hx xs c1)) (some (hx xs c1).u) (some (hx xs c2).u)) :=
    (St.sfor it).trans ((St.for_cons g1 b1').trans ((St.for_cons g2 b2').trans rfl))
  rw [hw] at s14
  refine finR ha5 hb5 (ys := (zs.set y1 (hx xs c2)).set y2 (hx xs c1)) (by simp [lz]) ?_ ((St.nx n12).trans ((St.nx s13).trans ((St.nx s14).trans (St.ret (St.vb (St.eb1 (St.varB (i := 6) (u := .lst .o (((zs.set y1 (hx xs c2)).set y2 (hx xs c1)).map En.u)) (by rw [hR]; rfl)) (tupL _)) rfl) rfl))))
  refine okS (okS ?_ ok2') ok1'
  rw [hzs]
  exact okS (okS ok (okW c2 (by omega))) (okW c1 (by omega))
end K35.V
set_option Elab.async false
set_option linter.all false
set_option maxRecDepth 100000
set_option maxHeartbeats 1000000
namespace K35.V
open PySem PySem.Spec PyProof.Rows L2 CV
abbrev lw1 : VL → RSU := (sIf (tB (tVal (eBin gNe (eLc (CC.CTg.nm 8) (iSeq (eLst (aCons (eTup (aCons (eLst aNil) aNil)) (aCons (eTup (aCons eDct aNil)) (aCons (eTup (aCons (eC .non) (aCons (eLst (aCons (eC (.int 0)) aNil)) aNil))) (aCons (eTup (aCons (eTup aNil) aNil)) (aCons (eTup (aCons (eLst aNil) (aCons (eC (.int 0)) aNil))) aNil))))))) (tVal (eBin gIsN (eCall u_is_half [] (aCons (eVarB 8) aNil)) (eC (.bl false)))) (eVarB 8)) (eLst aNil)))) (sRet (eC (.bl false))) sNx)
abbrev lw2 : VL → RSU := (sFor (gNf 1) (iSeq (vB (eLst (aCons (eC .non) (aCons (eC (.int 5)) (aCons (eC (.str "")) (aCons (eTup aNil) (aCons (eLst aNil) (aCons eDct (aCons (eC (.bl true)) (aCons (eLst (aCons (eC .non) aNil)) (aCons (eBin gMul1 (eTup (aCons (eC .non) aNil)) (eC (.int 17))) (aCons (eTup (aCons (eTup (aCons (eC (.int 0)) aNil)) aNil)) (aCons (eTup (aCons (eC (.int 0)) aNil)) (aCons (eBin gMul1 (eTup (aCons (eC (.int 1)) (aCons (eC (.int 0)) (aCons (eC .non) (aCons (eC .non) aNil))))) (eC (.int 5))) aNil))))))))))))))) v_law_b1)
abbrev lw3 : VL → RSU := (sIf (tB (tOrT (tVal (eBin gIsN (eCall u_is_half [] (aCons (eTup (aCons (eC .non) aNil)) aNil)) (eC (.bl true)))) (tOrT (tVal (eBin gIsN (eCall u_is_half [] (aCons (eBin gMul1 (eTup (aCons (eC .non) aNil)) (eC (.int 16))) aNil)) (eC (.bl true)))) (tVal (eBin gIsN (eCall u_is_half [] (aCons (eBin gMul1 (eTup (aCons (eC (.int 1)) (aCons (eC (.int 0)) aNil))) (eC (.int 1))) aNil)) (eC (.bl true))))))) (sRet (eC (.bl false))) sNx)
abbrev l21 : VL → RSU := (sAsg (gNm 3) (vB (eCall u__law_pool [] (aCons (eVarB 0) (aCons (eVarB 2) aNil)))))
abbrev l22 : VL → RSU := (sAsg (gNf 4) (eCallM 3 u__law_random_half [] (aCons (eBin gAdd (eC (.int 1)) (eCallM 3 u__law_take [] (aCons (eC (.int 16)) aNil))) aNil)))
abbrev l23 : VL → RSU := (sIf (tB (tOrT (tVal (eBin gIsN (eCall u_is_half [] (aCons (eVarB 4) aNil)) (eC (.bl true)))) (tVal (eBin gIsN (eCall u_is_half [] (aCons (eB fList (aCons (eVarB 4) aNil)) aNil)) (eC (.bl false)))))) (sRet (eC (.bl false))) sNx)
abbrev l24 : VL → RSU := (sFor (gNf 5) (iRange1 (eC (.int 20))) v_law_b3)
abbrev l31 : VL → RSU := (sAsg (gNf 6) (eCallM 3 u__law_modified [] (aCons (eVarN 4) aNil)))
abbrev l32 : VL → RSU := (sAsg (gNf 6) (eIf (tB (tAndT (tVal (eBin gEq (eBin gMod (eVarB 5) (eC (.int 3))) (eC (.int 2)))) (tVal (eBin gNe (eVarB 6) (eTup aNil))))) (eCallM 3 u__law_modified [] (aCons (eVarN 6) aNil)) (eVarN 6)))
abbrev l33 : VL → RSU := (sAsg (gNf 7) (vB (eB fRepr (aCons (eVarB 6) aNil))))
abbrev l34 : VL → RSU := (sIf (tB (tOrT (tVal (eBin gNe (eB fRepr (aCons (eCall u_is_half [] (aCons (eVarB 6) aNil)) aNil)) (eB fRepr (aCons (eCall u__law_is_half [] (aCons (eVarB 6) aNil)) aNil)))) (tVal (eBin gNe (eB fRepr (aCons (eVarB 6) aNil)) (eVarB 7))))) (sRet (eC (.bl false))) sNx)
theorem rp_e {e : En} (h : okE e) : Rp 2 30 e.d := by
  cases e with
  | n => exact ⟨Rq.non.mono (by decide), by decide +kernel, by decide +kernel, by decide +kernel⟩
  | i z =>
    rcases h with rfl | rfl | ⟨h1, h2⟩
    · exact ⟨Rq.int.mono (by decide), by decide +kernel, by decide +kernel, by decide +kernel⟩
    · exact ⟨Rq.int.mono (by decide), by decide +kernel, by decide +kernel, by decide +kernel⟩
    · obtain ⟨n, rfl⟩ := Int.eq_ofNat_of_zero_le h1
      have r := Rp.int (n := n) (by omega)
      exact ⟨r.q.mono (by decide), r.sh, Nat.le_trans r.le (by decide), r.so⟩
  | b v => cases v <;> exact ⟨Rq.bl.mono (by decide), by decide +kernel, by decide +kernel, by decide +kernel⟩
  | s => exact ⟨(Rq.str (by decide +kernel)).mono (by decide), by decide +kernel, by decide +kernel, by decide +kernel⟩
  | t =>
    have r := Rp.tup (k := 1) (B := 3) (ds := [.int 0]) fun d m => by
      simp only [List.mem_cons, List.not_mem_nil, or_false] at m
      subst m
      exact Rp.int (n := 0) (by decide)
    exact r.mono (by decide)
theorem rep_T {xs : List En} (hl : xs.length ≤ 95) (ok : ∀ e ∈ xs, okE e) : ∃ s : Str, fRepr [T xs] = some (.str s) ∧ PyData.strOk s = true := by
  have r : Rp 3 (3 + (xs.map En.d).length * (30 + 2)) (.tuple (xs.map En.d)) := Rp.tup fun d m => by
    obtain ⟨e, me, rfl⟩ := List.mem_map.mp m
    exact rp_e (ok e me)
  exact ⟨_, repr_ok (T_dat xs) r (by decide) (by rw [List.length_map]; omega), r.so⟩
theorem rep_bl (b : Bool) : ∃ s : Str, fRepr [.bl b] = some (.str s) ∧ PyData.strOk s = true := by
  have r : Rp 2 30 (.bool b) := rp_e (e := .b b) trivial
  exact ⟨_, repr_ok (x := .bl b) (k := 2) (B := 30) rfl r (by decide) (by decide), r.so⟩
def lS0 (ns : List Int) (x1 : Option U) : VL := [some (.frz ns), x1, none, none, none, none, none, none, none]
theorem lw1_ok (ns : List Int) : lw1 (lS0 ns none) = .nx (lS0 ns none) := by kernel_rfl
theorem lw2_ok (ns : List Int) : ∃ x, lw2 (lS0 ns none) = .nx (lS0 ns x) := ⟨some (.tup [.int 1, .int 0, .non, .non, .int 1, .int 0, .non, .non, .int 1, .int 0, .non, .non, .int 1, .int 0, .non, .non, .int 1, .int 0, .non, .non]), by kernel_rfl⟩
theorem lw3_ok (ns : List Int) (x : Option U) : lw3 (lS0 ns x) = .nx (lS0 ns x) := by kernel_rfl
def qS (ns : List Int) (a b : Int) (x1 x2 : Option U) (hs : List En) (x5 x6 x7 : Option U) : VL := [some (.frz ns), x1, x2, some (P' a b), some (T hs), x5, x6, x7, none]
theorem ne_tnil (xs : List En) : gNe (T xs) (.tup []) = some (.bl (!decide (xs = []))) := by
  cases xs with
  | nil => rfl
  | cons a l =>
    have e : gEqB (T (a :: l)) (.tup []) = some false := by
      show gEqD _ _ = _
      unfold gEqD
      rw [T_dat]
      have d0 : datU 12 (.tup []) = some (.tuple []) := rfl
      rw [d0]
      dsimp only
      rw [T_shaped]
      rfl
    unfold gNe
    rw [e]; rfl
theorem l3_ok (ns : List Int) {a b : Int} (ha : 0 ≤ a) (hb : 0 ≤ b) {hs : List En} (h1 : 1 ≤ hs.length) (hl : hs.length ≤ 16) (ok : ∀ e ∈ hs, okE e) (n : Nat) (hn : n < 100) (x1 x2 x6 x7 : Option U) :
    ∃ a' b' y6 y7, 0 ≤ a' ∧ 0 ≤ b' ∧ v_law_b3 (qS ns a b x1 x2 hs (some (wi n)) x6 x7) = .nx (qS ns a' b' x1 x2 hs (some (wi n)) y6 y7) := by
  obtain ⟨a1, b1, ys, ha1, hb1, ly, oky, m1⟩ := mod_ok ha hb h1 (by omega) ok
  have s1 : l31 (qS ns a b x1 x2 hs (some (wi n)) x6 x7) = .nx (qS ns a1 b1 x1 x2 hs (some (wi n)) (some (T ys)) x7) :=
    St.asgF (i := 6) (u := T ys) (St.callM (i := 3) (ds := []) (us := [T hs]) (o := P' a b) ⟨_, rfl⟩ (St.cons (St.varN (i := 4) (u := T hs) rfl rfl) St.nil) rfl m1)
  obtain ⟨a2, b2, zs, ha2, hb2, lz, okz, s2⟩ : ∃ a2 b2 zs, 0 ≤ a2 ∧ 0 ≤ b2 ∧ zs.length ≤ 18 ∧ (∀ e ∈ zs, okE e) ∧ l32 (qS ns a1 b1 x1 x2 hs (some (wi n)) (some (T ys)) x7) = .nx (qS ns a2 b2 x1 x2 hs (some (wi n)) (some (T zs)) x7) := by
    have g1 := Q.mod (a := n) (b := 3) (by decide)
    have g2 := Q.eq (n % 3) 2
    have v5 : eVarB 5 (qS ns a1 b1 x1 x2 hs (some (wi n)) (some (T ys)) x7) = .ok (wi n) (qS ns a1 b1 x1 x2 hs (some (wi n)) (some (T ys)) x7) := St.varB (i := 5) (u := wi n) rfl
    have v6 : eVarB 6 (qS ns a1 b1 x1 x2 hs (some (wi n)) (some (T ys)) x7) = .ok (T ys) (qS ns a1 b1 x1 x2 hs (some (wi n)) (some (T ys)) x7) := St.varB (i := 6) (u := T ys) rfl
    have v6n : eVarN 6 (qS ns a1 b1 x1 x2 hs (some (wi n)) (some (T ys)) x7) = .ok (T ys) (qS ns a1 b1 x1 x2 hs (some (wi n)) (some (T ys)) x7) := St.varN (i := 6) (u := T ys) rfl rfl
    have tA := St.tv (St.bin (y := wi 2) (St.bin (y := wi 3) v5 St.c g1) St.c g2)
    have tB := St.tv (St.bin (y := .tup []) v6 (St.tup (us := []) St.nil (Nat.zero_le _) rfl) (ne_tnil ys))
    have stay : ∀ {m : VL → RU Bool} {k : VL → RU U}, m (qS ns a1 b1 x1 x2 hs (some (wi n)) (some (T ys)) x7) = .ok false (qS ns a1 b1 x1 x2 hs (some (wi n)) (some (T ys)) x7) → CV.sAsg (gNf 6) (CV.eIf (CV.tB m) k (eVarN 6)) (qS ns a1 b1 x1 x2 hs (some (wi n)) (some (T ys)) x7) = .nx (qS ns a1 b1 x1 x2 hs (some (wi n)) (some (T ys)) x7) := fun h =>
      St.asgF (i := 6) (u := T ys) (St.eifF (St.tb h) v6n)
    by_cases q : n % 3 = 2
    · rw [decide_eq_true q] at tA
      by_cases e : ys = []
      · rw [decide_eq_true e] at tB
        exact ⟨a1, b1, ys, ha1, hb1, by omega, oky, stay (St.tAndTT tA tB)⟩
      · rw [decide_eq_false e] at tB
        obtain ⟨a2, b2, zs, ha2, hb2, lz, okz, m2⟩ := mod_ok ha1 hb1 (xs := ys) (List.length_pos_iff.mpr e) (by omega) oky
        refine ⟨a2, b2, zs, ha2, hb2, by omega, okz, ?_⟩
        exact St.asgF (i := 6) (u := T zs) (St.eifT (St.tb (St.tAndTT tA tB)) (St.callM (i := 3) (ds := []) (us := [T ys]) (o := P' a1 b1) ⟨_, rfl⟩ (St.cons v6n St.nil) rfl m2))
    · rw [decide_eq_false q] at tA
      exact ⟨a1, b1, ys, ha1, hb1, by omega, oky, stay (St.tAndTF tA)⟩
  obtain ⟨w, hw, sw⟩ := rep_T (xs := zs) (by omega) okz
  obtain ⟨w2, hw2, sw2⟩ := rep_bl (lawB zs)
  have s3 : l33 (qS ns a2 b2 x1 x2 hs (some (wi n)) (some (T zs)) x7) = .nx (qS ns a2 b2 x1 x2 hs (some (wi n)) (some (T zs)) (some (.str w))) :=
    St.asgF (i := 7) (u := .str w) (St.vb (St.eb1 (St.varB (i := 6) (u := T zs) rfl) hw) rfl)
  have v6 : eVarB 6 (qS ns a2 b2 x1 x2 hs (some (wi n)) (some (T zs)) (some (.str w))) = .ok (T zs) (qS ns a2 b2 x1 x2 hs (some (wi n)) (some (T zs)) (some (.str w))) := St.varB (i := 6) (u := T zs) rfl
  have s4 : l34 (qS ns a2 b2 x1 x2 hs (some (wi n)) (some (T zs)) (some (.str w))) = .nx (qS ns a2 b2 x1 x2 hs (some (wi n)) (some (T zs)) (some (.str w))) := by
    refine (St.iff (v1 := qS ns a2 b2 x1 x2 hs (some (wi n)) (some (T zs)) (some (.str w))) (St.tb (v1 := qS ns a2 b2 x1 x2 hs (some (wi n)) (some (T zs)) (some (.str w))) (St.tOrTF (v1 := qS ns a2 b2 x1 x2 hs (some (wi n)) (some (T zs)) (some (.str w))) ?_ ?_))).trans rfl
    · exact St.tv (St.bin (x := .str w2) (y := .str w2) (St.eb1 (St.call (ds := []) (us := [T zs]) (St.cons v6 St.nil) (is_half_ok (by omega))) hw2) (St.eb1 (St.call (ds := []) (us := [T zs]) (St.cons v6 St.nil) (law_half_ok (by omega))) hw2) (ne_str sw2))
    · exact St.tv (St.bin (x := .str w) (y := .str w) (St.eb1 v6 hw) (St.varB (i := 7) (u := .str w) rfl) (ne_str sw))
  exact ⟨a2, b2, _, _, ha2, hb2, (St.nx s1).trans ((St.nx s2).trans ((St.nx s3).trans s4))⟩
theorem l3_loop (ns : List Int) {hs : List En} (h1 : 1 ≤ hs.length) (hl : hs.length ≤ 16) (ok : ∀ e ∈ hs, okE e) (x1 x2 : Option U) : ∀ (cs : List Nat), (∀ c ∈ cs, c < 100) → ∀ {a b : Int}, 0 ≤ a → 0 ≤ b → ∀ (x5 x6 x7 : Option U),
    ∃ a' b' y5 y6 y7, 0 ≤ a' ∧ 0 ≤ b' ∧ forL (gNf 5) v_law_b3 (cs.map wi) (qS ns a b x1 x2 hs x5 x6 x7) = .nx (qS ns a' b' x1 x2 hs y5 y6 y7)
  | [], _, a, b, ha, hb, x5, x6, x7 => ⟨a, b, x5, x6, x7, ha, hb, rfl⟩
  | c :: cs, h, a, b, ha, hb, x5, x6, x7 => by
    obtain ⟨a1, b1, y6, y7, ha1, hb1, e⟩ := l3_ok ns ha hb h1 hl ok c (h c (List.mem_cons_self ..)) x1 x2 x6 x7
    obtain ⟨a2, b2, z5, z6, z7, ha2, hb2, e2⟩ := l3_loop ns h1 hl ok x1 x2 cs (fun x m => h x (List.mem_cons_of_mem _ m)) ha1 hb1 (some (wi c)) y6 y7
    refine ⟨a2, b2, z5, z6, z7, ha2, hb2, ?_⟩
    rw [List.map_cons, St.for_cons (v1 := qS ns a b x1 x2 hs (some (wi c)) x6 x7) rfl e]
    exact e2
def wS (ns : List Int) (x1 x2 x3 x4 x5 x6 x7 : Option U) : VL := [some (.frz ns), x1, x2, x3, x4, x5, x6, x7, none]
theorem l2_ok (ns : List Int) (k : Nat) (hk : k < 64) (x1 x3 x4 x5 x6 x7 : Option U) : ∃ y3 y4 y5 y6 y7, v_law_b2 (wS ns x1 (some (wi k)) x3 x4 x5 x6 x7) = .nx (wS ns x1 (some (wi k)) y3 y4 y5 y6 y7) := by
  obtain ⟨a0, b0, ha0, hb0, p0⟩ := pool_spec ns k hk
  have s1 : l21 (wS ns x1 (some (wi k)) x3 x4 x5 x6 x7) = .nx (wS ns x1 (some (wi k)) (some (P' a0 b0)) x4 x5 x6 x7) :=
    St.asgM (i := 3) (u := P' a0 b0) (St.vb (St.call (ds := []) (us := [.frz ns, wi k]) (St.cons (St.varB (i := 0) (u := .frz ns) rfl) (St.cons (St.varB (i := 2) (u := wi k) rfl) St.nil)) p0) rfl)
  obtain ⟨a1, b1, r, ha1, hb1, hr, k1⟩ := pl_take a0 b0 16 ha0 hb0 (by decide) (by decide)
  obtain ⟨a2, b2, f, ha2, hb2, f1, f2, f3, rh⟩ := random_half_ok ha1 hb1 (w := 1 + r) (by omega) (by omega)
  obtain ⟨hs, hhs⟩ : ∃ hs, hs = hE f (1 + r) := ⟨_, rfl⟩
  have lh : hs.length = 1 + r := by rw [hhs]; exact hE_len _ _
  have lB : lawB hs = true := by rw [hhs]; exact random_lawB (by omega) (by omega) f1 f2 f3
  have okh : ∀ e ∈ hs, okE e := fun e m => by
    rw [hhs] at m
    unfold hE at m
    obtain ⟨x, mx, rfl⟩ := List.mem_map.mp m
    have hx := List.mem_range.mp mx
    cases q : f x with
    | none => trivial
    | some y =>
      have := (f1 x y hx q).1
      exact .inr (.inr ⟨by omega, by omega⟩)
  rw [← hhs] at rh
  have s2 : l22 (wS ns x1 (some (wi k)) (some (P' a0 b0)) x4 x5 x6 x7) = .nx (qS ns a2 b2 x1 (some (wi k)) hs x5 x6 x7) := by
    refine St.asgF (i := 4) (u := T hs) (v1 := wS ns x1 (some (wi k)) (some (P' a2 b2)) x4 x5 x6 x7) (St.callM (i := 3) (ds := []) (us := [wi (1 + r)]) (o := P' a1 b1) (v1 := wS ns x1 (some (wi k)) (some (P' a1 b1)) x4 x5 x6 x7) ⟨_, rfl⟩ (St.cons (St.bin (x := wi 1) (y := wi r) St.c (St.callM (i := 3) (ds := []) (us := [wi 16]) (o := P' a0 b0) ⟨_, rfl⟩ (St.cons St.c St.nil) rfl k1) (Q.add 1 r)) St.nil) rfl rh)
  have v4 : eVarB 4 (qS ns a2 b2 x1 (some (wi k)) hs x5 x6 x7) = .ok (T hs) (qS ns a2 b2 x1 (some (wi k)) hs x5 x6 x7) := St.varB (i := 4) (u := T hs) rfl
  have ih1' := is_half_ok (xs := hs) (by omega)
  rw [lB] at ih1'
  have ihl : u_is_half [.lst .o (hs.map En.u)] = .ok (.bl false) .non := by
    have t : CV.tB (tOrT (tNotT (tVal (eIsi (CC.qTup []) (eVarB 0)))) (tNotT (tVal (CV.eCall u_is_columns [] (CV.aCons (CV.eB fLen (CV.aCons (eVarB 0) CV.aNil)) CV.aNil))))) [some (.lst .o (hs.map En.u)), none, none] = .ok true [some (.lst .o (hs.map En.u)), none, none] :=
      St.tb (v1 := [some (.lst .o (hs.map En.u)), none, none]) (St.tOrTT (St.notT (b := false) (St.tv (St.isi (St.varB (i := 0) (u := .lst .o (hs.map En.u)) rfl) rfl))))
    exact St.fnV_ret rfl rfl (St.seqR ((St.ift t).trans (St.ret St.c rfl)))
  have s3 : l23 (qS ns a2 b2 x1 (some (wi k)) hs x5 x6 x7) = .nx (qS ns a2 b2 x1 (some (wi k)) hs x5 x6 x7) := by
    refine (St.iff (v1 := qS ns a2 b2 x1 (some (wi k)) hs x5 x6 x7) (St.tb (v1 := qS ns a2 b2 x1 (some (wi k)) hs x5 x6 x7) (St.tOrTF (v1 := qS ns a2 b2 x1 (some (wi k)) hs x5 x6 x7) ?_ ?_))).trans rfl
    · exact St.tv (St.bin (x := .bl true) (y := .bl true) (St.call (ds := []) (us := [T hs]) (St.cons v4 St.nil) ih1') St.c rfl)
    · exact St.tv (St.bin (x := .bl false) (y := .bl false) (St.call (ds := []) (us := [.lst .o (hs.map En.u)]) (St.cons (St.eb1 v4 (listT hs)) St.nil) ihl) St.c rfl)
  obtain ⟨a3, b3, y5, y6, y7, _, _, lp⟩ := l3_loop ns (hs := hs) (by omega) (by omega) okh x1 (some (wi k)) (List.range' 0 20) (fun x m => by simp at m; omega) ha2 hb2 x5 x6 x7
  have s4 : l24 (qS ns a2 b2 x1 (some (wi k)) hs x5 x6 x7) = .nx (qS ns a3 b3 x1 (some (wi k)) hs y5 y6 y7) :=
    (St.sfor (St.rg1W (n := 20) (ma := eC (.int 20)) St.c (by decide))).trans lp
  exact ⟨_, _, _, _, _, (St.nx s1).trans ((St.nx s2).trans ((St.nx s3).trans s4))⟩
theorem l2_loop (ns : List Int) (x1 : Option U) : ∀ (cs : List Nat), (∀ c ∈ cs, c < 64) → ∀ (x2 x3 x4 x5 x6 x7 : Option U),
    ∃ v, forL (gNf 2) v_law_b2 (cs.map wi) (wS ns x1 x2 x3 x4 x5 x6 x7) = .nx v
  | [], _, x2, x3, x4, x5, x6, x7 => ⟨_, rfl⟩
  | c :: cs, h, x2, x3, x4, x5, x6, x7 => by
    obtain ⟨y3, y4, y5, y6, y7, e⟩ := l2_ok ns c (h c (List.mem_cons_self ..)) x1 x3 x4 x5 x6 x7
    obtain ⟨v, e2⟩ := l2_loop ns x1 cs (fun x m => h x (List.mem_cons_of_mem _ m)) (some (wi c)) y3 y4 y5 y6 y7
    refine ⟨v, ?_⟩
    rw [List.map_cons, St.for_cons (v1 := wS ns x1 (some (wi c)) x3 x4 x5 x6 x7) rfl e]
    exact e2
theorem law_ok (ns : List Int) : ∃ o, u_law [.frz ns] = .ok (.bl true) o := by
  obtain ⟨x, e2⟩ := lw2_ok ns
  obtain ⟨m, w, hm, h1, h2⟩ := count_of 10 ns.length (by decide) (by decide)
  obtain ⟨v, lp⟩ := l2_loop ns x (List.range' 0 m) (fun c h => by simp at h; omega) none none none none none none
  have it : CV.iRange1 (CV.vB (CV.eB fMax2 (CV.aCons (eC (.int 1)) (CV.aCons (CV.eB fMin2 (CV.aCons (eC (.int 10)) (CV.aCons (CV.eB fLen (CV.aCons (eVarB 0) CV.aNil)) CV.aNil))) CV.aNil)))) (lS0 ns x) = .ok ((List.range' 0 m).map wi) (lS0 ns x) :=
    St.rg1W (St.vb (St.eb (us := [.int 1, .int w]) (St.cons St.c (St.cons (St.eb (us := [.int 10, wi ns.length]) (St.cons St.c (St.cons (St.eb1 (St.varB (i := 0) (u := .frz ns) rfl) (Q.lenF ns)) St.nil)) h1) St.nil)) h2) rfl) (by omega)
  exact ⟨_, St.fnV_ret (v := v) rfl rfl ((St.nx (lw1_ok ns)).trans ((St.nx e2).trans ((St.nx (lw3_ok ns x)).trans ((St.nx ((St.sfor it).trans lp)).trans (St.ret St.c rfl)))))⟩
end K35.V
set_option Elab.async false
set_option maxRecDepth 100000
open PySem PySem.W PyProof.Rows in
set_option maxRecDepth 100000 in
set_option maxHeartbeats 0 in
theorem PySem.Challenge.cw_cupcap_k35_halves_recognized_holds : PySem.Challenge.rw_cupcap_k35_halves_recognized.Holds := by
  w_on; o_law; k_head; (case hw => w_witness2)
  k_fill
  refine CC.law_end (l := PySem.Challenge.rw_cupcap_k35_halves_recognized) (k := K35.lvl) (x := "_law_script") (Fm := K35.m_law) rfl rfl ⟨rfl, by decide, by decide⟩ (fun w h Y => PySem.W.kIn_of Y) ?F (fun ns hn => K35.V.yes ns (K35.V.law_ok ns))
  case F =>
  intro w mg fa h KX NG hmg
  refine ⟨?nl, ?fl⟩
  (case nl => first | rfl | k_is)
  case fl =>
  refine' K35.all_mk KX NG hmg ?n_abs ?n_all ?n_bool ?n_enumerate ?n_int ?n_isinstance ?n_len ?n_list ?n_max ?n_min ?n_range ?n_repr ?n_tuple ?c_MAX_COLUMNS ?a__law_is_half ?k__law_is_half ?a__law_take ?k__law_take ?a__law_modified ?k__law_modified ?a__law_pool ?k__law_pool ?a__law_random_half ?k__law_random_half ?a_is_integer ?k_is_integer ?a_is_columns ?k_is_columns ?a_is_planar ?k_is_planar ?a_is_half ?k_is_half ?a_law ?k_law
  (case n_abs => k_is)
  (case n_all => k_is)
  (case n_bool => k_is)
  (case n_enumerate => k_is)
  (case n_int => k_is)
  (case n_isinstance => k_is)
  (case n_len => k_is)
  (case n_list => k_is)
  (case n_max => k_is)
  (case n_min => k_is)
  (case n_range => k_is)
  (case n_repr => k_is)
  (case n_tuple => k_is)
  (case c_MAX_COLUMNS => k_is)
  (case a__law_is_half => k_is)
  (case k__law_is_half => (refine' CC.kd_mk ?l ?c ?k; (case l => k_is); (case c => k_is); (case k => k_is)))
  (case a__law_take => k_is)
  (case k__law_take => (refine' CC.kd_mk ?l ?c ?k; (case l => k_is); (case c => k_is); (case k => k_is)))
  (case a__law_modified => k_is)
  (case k__law_modified => (refine' CC.kd_mk ?l ?c ?k; (case l => k_is); (case c => k_is); (case k => k_is)))
  (case a__law_pool => k_is)
  (case k__law_pool => (refine' CC.kd_mk ?l ?c ?k; (case l => k_is); (case c => k_is); (case k => k_is)))
  (case a__law_random_half => k_is)
  (case k__law_random_half => (refine' CC.kd_mk ?l ?c ?k; (case l => k_is); (case c => k_is); (case k => k_is)))
  (case a_is_integer => k_is)
  (case k_is_integer => (refine' CC.kdd_mk ?l ?c ?k ?t ?r (by simp); (case l => k_is); (case c => k_is); (case k => k_is); (case t => k_is); (case r => exact .cons ⟨_, rfl⟩ (.nil))))
  (case a_is_columns => k_is)
  (case k_is_columns => (refine' CC.kd_mk ?l ?c ?k; (case l => k_is); (case c => k_is); (case k => k_is)))
  (case a_is_planar => k_is)
  (case k_is_planar => (refine' CC.kd_mk ?l ?c ?k; (case l => k_is); (case c => k_is); (case k => k_is)))
  (case a_is_half => k_is)
  (case k_is_half => (refine' CC.kd_mk ?l ?c ?k; (case l => k_is); (case c => k_is); (case k => k_is)))
  (case a_law => k_is)
  (case k_law => (refine' CC.kd_mk ?l ?c ?k; (case l => k_is); (case c => k_is); (case k => k_is)))
