import PyProof.Rows.All
import Wide.All
import OpenK.AllK
import Wide.FinOn
import HandS.ForMost
import HandS.Evl
import HandS.TupAny
import HandS.TupMul
import HandS.Zip
import HandS.Conv
import HandS.IsInst
import KE.KDictKeyed
import HandS.Style
import KE.SortCalls
import KE.DataCmp
import KE.DataMinMax
import KE.GoesMore
import KE.GoesEnum
import KE.KDictZip
import HandS.Star
import KE.KDictCopyH
import KE.KDictSum
import HandS.More
import HandS.Words
import PySem.Challenge.RW_termtide_k65_whole_sums_of_least_rows
set_option Elab.async false
set_option linter.all false
set_option maxRecDepth 100000
set_option maxHeartbeats 0
set_option autoImplicit false
/-! DL: a layer of plain data over HandS. D: what a value is worth; Rp: a value of the frozen heap F is worth d; Rel: the slots against the data; Ev, EvT, EvA, EvI: what pure readings give; wpS: statements over data alone. -/
namespace DL
open PySem L2
open Evl (Ex)

inductive D where
  | non | bl (b : Bool) | int (i : Int) | str (s : Str)
  | lst (xs : List D) | tup (xs : List D)
  | dK (kvs : List (Key × D)) | dT (kvs : List (List Key × D))
  | ins (C : Addr) (fs : List (Str × D))
  | ty (n : String)
  /-- a dict of True, its keys of any depth -/
  | dN (w : World) (ks : List NestedKey)
mutual
def nD : NestedKey → D
  | .none => .non
  | .num i => .int i
  | .text x => .str x
  | .tup ks => .tup (nDs ks)
def nDs : List NestedKey → List D
  | [] => []
  | k :: ks => nD k :: nDs ks
end
/-- a dict whose keys are the tuples at those addresses, each with True -/
def NdP (w : World) (a : Addr) (kas : List (NestedKey × Addr)) (h : Heap) : Prop := (a == sysModules) = false ∧ kas.length ≤ sizeLine ∧ (kas.map (·.1)).Nodup ∧ (∀ q ∈ kas, NestedKey.depth q.1 ≤ 8) ∧
  ∃ o es ep, h.get? a = some o ∧ o.ExactDict ∧ o.data = .dict es ep ∧ es.toList = kas.map fun q => (⟨NestedKey.hash w q.1, .ref q.2, .bool true⟩ : DictEntry)
def NDO (w : World) (a : Addr) (kas : List (NestedKey × Addr)) : HO := .ext (NdP w a kas)

mutual
inductive Rp (F : Hp) : V → D → Prop
  | non : Rp F .non .non
  | bl (b : Bool) : Rp F (.bl b) (.bl b)
  | int (i : Int) : Rp F (.int i) (.int i)
  | str (x : Str) : Rp F (.str x) (.str x)
  | ty (n : String) : Rp F (.ty n) (.ty n)
  | lst {a : Addr} {vs : List V} {ds : List D} : F a = some (.lst vs) → RpA F vs ds → Rp F (.ref a) (.lst ds)
  | tup {a : Addr} {vs : List V} {ds : List D} : F a = some (.tup vs) → RpA F vs ds → Rp F (.ref a) (.tup ds)
  | dK {a : Addr} {kv : List (Key × V)} {kd : List (Key × D)} : F a = some (.dK kv) → kv.map (·.1) = kd.map (·.1) → RpA F (kv.map (·.2)) (kd.map (·.2)) → Rp F (.ref a) (.dK kd)
  | dT {a : Addr} {kv : List (List Key × V)} {kd : List (List Key × D)} : F a = some (.dT kv) → kv.map (·.1) = kd.map (·.1) → RpA F (kv.map (·.2)) (kd.map (·.2)) → Rp F (.ref a) (.dT kd)
  | ins {a C dx : Addr} {fv : List (Str × V)} {fd : List (Str × D)} : F a = some (.ins C dx fv) → fv.map (·.1) = fd.map (·.1) → RpA F (fv.map (·.2)) (fd.map (·.2)) → Rp F (.ref a) (.ins C fd)
  | dN {a : Addr} {w : World} {kas : List (NestedKey × Addr)} {ks : List NestedKey} : F a = some (NDO w a kas) → kas.map (·.1) = ks → RpA F (kas.map fun q => V.ref q.2) (nDs ks) → Rp F (.ref a) (.dN w ks)
inductive RpA (F : Hp) : List V → List D → Prop
  | nil : RpA F [] []
  | cons {v : V} {d : D} {vs : List V} {ds : List D} : Rp F v d → RpA F vs ds → RpA F (v :: vs) (d :: ds)
end

mutual
theorem Rp.mono {F F' : Hp} (e : Ex F F') : ∀ {v : V} {d : D}, Rp F v d → Rp F' v d
  | _, _, .non => .non
  | _, _, .bl b => .bl b
  | _, _, .int i => .int i
  | _, _, .str x => .str x
  | _, _, .ty n => .ty n
  | _, _, .lst h r => .lst (e _ _ h) (RpA.mono e r)
  | _, _, .tup h r => .tup (e _ _ h) (RpA.mono e r)
  | _, _, .dK h k r => .dK (e _ _ h) k (RpA.mono e r)
  | _, _, .dT h k r => .dT (e _ _ h) k (RpA.mono e r)
  | _, _, .ins h k r => .ins (e _ _ h) k (RpA.mono e r)
  | _, _, .dN h k r => .dN (e _ _ h) k (RpA.mono e r)
theorem RpA.mono {F F' : Hp} (e : Ex F F') : ∀ {vs : List V} {ds : List D}, RpA F vs ds → RpA F' vs ds
  | _, _, .nil => .nil
  | _, _, .cons h r => .cons (Rp.mono e h) (RpA.mono e r)
end
/-- a value that needs no heap -/
def D.scal : D → Bool
  | .non => true | .bl _ => true | .int _ => true | .str _ => true | .ty _ => true | _ => false
theorem Rp.scal {F F' : Hp} {v : V} {d : D} (h : Rp F v d) (s : d.scal = true) : Rp F' v d := by
  cases h with
  | non => exact .non
  | bl b => exact .bl b
  | int i => exact .int i
  | str x => exact .str x
  | ty n => exact .ty n
  | lst => cases s
  | tup => cases s
  | dK => cases s
  | dT => cases s
  | ins => cases s
  | dN => cases s
theorem RpA.length {F : Hp} : ∀ {vs : List V} {ds : List D}, RpA F vs ds → vs.length = ds.length
  | _, _, .nil => rfl
  | _, _, .cons _ r => by simp [RpA.length r]
theorem RpA.get {F : Hp} : ∀ {vs : List V} {ds : List D} {i : Nat} {d : D}, RpA F vs ds → ds[i]? = some d → ∃ v, vs[i]? = some v ∧ Rp F v d
  | _, _, _, _, .nil, h => by simp at h
  | _, _, 0, _, .cons h r, e => by
    simp at e
    subst e
    exact ⟨_, rfl, h⟩
  | _, _, i + 1, _, .cons h r, e => by
    obtain ⟨v, h1, h2⟩ := RpA.get (i := i) r (by simpa using e)
    exact ⟨v, by simpa using h1, h2⟩
theorem RpA.get' {F : Hp} {vs : List V} {ds : List D} {i : Nat} {v : V} (h : RpA F vs ds) (e : vs[i]? = some v) : ∃ d, ds[i]? = some d ∧ Rp F v d := by
  have hl := h.length
  have hi : i < vs.length := (List.getElem?_eq_some_iff.mp e).1
  have e2 : ds[i]? = some ds[i] := by simp [hl ▸ hi]
  obtain ⟨w, h1, h2⟩ := h.get e2
  rw [e] at h1
  cases h1
  exact ⟨_, e2, h2⟩
theorem RpA.append {F : Hp} : ∀ {vs ws : List V} {ds es : List D}, RpA F vs ds → RpA F ws es → RpA F (vs ++ ws) (ds ++ es)
  | _, _, _, _, .nil, s => s
  | _, _, _, _, .cons h r, s => .cons h (RpA.append r s)
theorem RpA.take {F : Hp} : ∀ {vs : List V} {ds : List D} (n : Nat), RpA F vs ds → RpA F (vs.take n) (ds.take n)
  | _, _, 0, _ => .nil
  | _, _, _ + 1, .nil => .nil
  | _, _, n + 1, .cons h r => .cons h (RpA.take n r)
theorem RpA.drop {F : Hp} : ∀ {vs : List V} {ds : List D} (n : Nat), RpA F vs ds → RpA F (vs.drop n) (ds.drop n)
  | _, _, 0, r => r
  | _, _, _ + 1, .nil => .nil
  | _, _, n + 1, .cons h r => RpA.drop n r
theorem RpA.set {F : Hp} {v : V} {d : D} (r : Rp F v d) : ∀ {vs : List V} {ds : List D} (i : Nat), RpA F vs ds → RpA F (vs.set i v) (ds.set i d)
  | _, _, _, .nil => .nil
  | _, _, 0, .cons _ t => .cons r t
  | _, _, i + 1, .cons q t => .cons q (RpA.set r i t)
theorem RpA.ints {F : Hp} : ∀ (ns : List Int), RpA F (ns.map V.int) (ns.map D.int)
  | [] => .nil
  | n :: r => .cons (.int n) (RpA.ints r)
theorem RpA.ints_eq {F : Hp} : ∀ {ns : List Int} {vs : List V}, RpA F vs (ns.map D.int) → vs = ns.map V.int
  | [], _, .nil => rfl
  | n :: r, _, .cons h t => by
    cases h
    rw [RpA.ints_eq t]
    rfl
theorem RpA.bls_eq {F : Hp} : ∀ {bs : List Bool} {vs : List V}, RpA F vs (bs.map D.bl) → vs = bs.map V.bl
  | [], _, .nil => rfl
  | n :: r, _, .cons h t => by
    cases h
    rw [RpA.bls_eq t]
    rfl
theorem RpA.strs_eq {F : Hp} : ∀ {bs : List Str} {vs : List V}, RpA F vs (bs.map D.str) → vs = bs.map V.str
  | [], _, .nil => rfl
  | n :: r, _, .cons h t => by
    cases h
    rw [RpA.strs_eq t]
    rfl
theorem RpA.strs {F : Hp} : ∀ (ns : List Str), RpA F (ns.map V.str) (ns.map D.str)
  | [] => .nil
  | n :: r => .cons (.str n) (RpA.strs r)
theorem RpA.bls {F : Hp} : ∀ (ns : List Bool), RpA F (ns.map V.bl) (ns.map D.bl)
  | [] => .nil
  | n :: r => .cons (.bl n) (RpA.bls r)

/-! ### what stands at the address of an object of the def's own, its items frozen -/
def OwnAt (F H : Hp) (p : Addr) : D → Prop
  | .lst ds => ∃ vs, H p = some (.lst vs) ∧ RpA F vs ds
  | .dK kd => ∃ kv : List (Key × V), H p = some (.dK kv) ∧ kv.map (·.1) = kd.map (·.1) ∧ RpA F (kv.map (·.2)) (kd.map (·.2))
  | .dT kd => ∃ kv : List (List Key × V), H p = some (.dT kv) ∧ kv.map (·.1) = kd.map (·.1) ∧ RpA F (kv.map (·.2)) (kd.map (·.2))
  | .ins C fd => ∃ dx fv, H p = some (.ins C dx fv) ∧ fv.map (·.1) = fd.map (·.1) ∧ RpA F (fv.map (·.2)) (fd.map (·.2))
  | .dN w ks => ∃ kas, H p = some (NDO w p kas) ∧ kas.map (·.1) = ks ∧ RpA F (kas.map fun q => V.ref q.2) (nDs ks)
  | _ => False
def isTup : HO → Prop
  | .tup _ => True
  | _ => False
theorem OwnAt.there {F H : Hp} {p : Addr} {d : D} (h : OwnAt F H p d) : ∃ o, H p = some o ∧ ¬ isTup o := by
  cases d with
  | lst ds => obtain ⟨vs, h, _⟩ := h; exact ⟨_, h, id⟩
  | dK ds => obtain ⟨vs, h, _⟩ := h; exact ⟨_, h, id⟩
  | dT ds => obtain ⟨vs, h, _⟩ := h; exact ⟨_, h, id⟩
  | ins C fd => obtain ⟨dx, vs, h, _⟩ := h; exact ⟨_, h, id⟩
  | dN w ks => obtain ⟨vs, h, _⟩ := h; exact ⟨_, h, id⟩
  | _ => exact h.elim
theorem OwnAt.mono {F F' H H' : Hp} {p : Addr} {d : D} (h : OwnAt F H p d) (e : Ex F F') (k : ∀ o, H p = some o → H' p = some o) : OwnAt F' H' p d := by
  cases d with
  | lst ds => obtain ⟨vs, h, r⟩ := h; exact ⟨vs, k _ h, r.mono e⟩
  | dK ds => obtain ⟨vs, h, q, r⟩ := h; exact ⟨vs, k _ h, q, r.mono e⟩
  | dT ds => obtain ⟨vs, h, q, r⟩ := h; exact ⟨vs, k _ h, q, r.mono e⟩
  | ins C fd => obtain ⟨dx, vs, h, q, r⟩ := h; exact ⟨dx, vs, k _ h, q, r.mono e⟩
  | dN w ks => obtain ⟨vs, h, q, r⟩ := h; exact ⟨vs, k _ h, q, r.mono e⟩
  | _ => exact h.elim
/-- frozen, it is worth the same -/
theorem OwnAt.rp {F H F' : Hp} {p : Addr} {d : D} (h : OwnAt F H p d) (e : Ex F F') (k : ∀ o, H p = some o → F' p = some o) : Rp F' (.ref p) d := by
  cases d with
  | lst ds => obtain ⟨vs, h, r⟩ := h; exact .lst (k _ h) (r.mono e)
  | dK ds => obtain ⟨vs, h, q, r⟩ := h; exact .dK (k _ h) q (r.mono e)
  | dT ds => obtain ⟨vs, h, q, r⟩ := h; exact .dT (k _ h) q (r.mono e)
  | ins C fd => obtain ⟨dx, vs, h, q, r⟩ := h; exact .ins (k _ h) q (r.mono e)
  | dN w ks => obtain ⟨vs, h, q, r⟩ := h; exact .dN (k _ h) q (r.mono e)
  | _ => exact h.elim

/-! ### slots -/
inductive Sl where
  | no
  | fz (d : D)
  /-- an object of the def's own, its items frozen; at a told address: one that came as an argument and is changed for the caller -/
  | ow (o : Option Addr) (d : D)
  /-- a dict that is walked just now: locked, at p -/
  | lk (p : Addr) (d : D)
abbrev Env := List Sl
def PinOk (N : Addr → Prop) (p : Addr) : Option Addr → Prop
  | none => N p
  | some q => p = q
def LkAt (F : Hp) (u : HO) : D → Prop
  | .dK kd => ∃ kv : List (Key × V), u = .dK kv ∧ kv.map (·.1) = kd.map (·.1) ∧ RpA F (kv.map (·.2)) (kd.map (·.2))
  | .dT kd => ∃ kv : List (List Key × V), u = .dT kv ∧ kv.map (·.1) = kd.map (·.1) ∧ RpA F (kv.map (·.2)) (kd.map (·.2))
  | _ => False
theorem LkAt.mono {F F' : Hp} (e : Ex F F') {u : HO} {d : D} (h : LkAt F u d) : LkAt F' u d := by
  cases d with
  | dK kd => obtain ⟨kv, a, b, c⟩ := h; exact ⟨kv, a, b, c.mono e⟩
  | dT kd => obtain ⟨kv, a, b, c⟩ := h; exact ⟨kv, a, b, c.mono e⟩
  | _ => exact h.elim
def SlOk (B : Hp) (N : Addr → Prop) (F H : Hp) (o : Option V) : Sl → Prop
  | .no => True
  | .fz d => ∃ v, o = some v ∧ Rp F v d
  | .ow q d => ∃ p, o = some (.ref p) ∧ B p = none ∧ F p = none ∧ OwnAt F H p d ∧ PinOk N p q
  | .lk p d => o = some (.ref p) ∧ ∃ od u, B p = some (.frz od u) ∧ LkAt F u d
structure Rel (B : Hp) (N : Addr → Prop) (F H : Hp) (σ : St) (env : Env) : Prop where
  fh : Ex F H
  bh : Ex B H
  fn : ∀ a o, F a = some o → N a ∨ isTup o
  bn : ∀ a, H a = none → N a
  len : σ.length = env.length
  sl : ∀ (i : Nat) (s : Sl), env[i]? = some s → SlOk B N F H (σ[i]?.join) s
  ds : ∀ (i j : Nat) (q q' : Option Addr) (d d' : D) (p : Addr), env[i]? = some (.ow q d) → env[j]? = some (.ow q' d') → σ[i]?.join = some (.ref p) → σ[j]?.join = some (.ref p) → i = j
/-- the heap has grown, by new things that may be frozen -/
structure Gr (F H F' H' : Hp) : Prop where
  ff : Ex F F'
  fh : Ex F' H'
  hh : Ex H H'
  nw : ∀ a o, F' a = some o → F a = some o ∨ H a = none ∨ isTup o
theorem Gr.refl {F H : Hp} (h : Ex F H) : Gr F H F H := ⟨Ex.refl _, h, Ex.refl _, fun _ _ e => .inl e⟩
theorem Gr.trans {F H F1 H1 F2 H2 : Hp} (a : Gr F H F1 H1) (b : Gr F1 H1 F2 H2) : Gr F H F2 H2 := by
  refine ⟨a.ff.trans b.ff, b.fh, a.hh.trans b.hh, fun x o h => ?_⟩
  rcases b.nw x o h with q | q | q
  · exact a.nw x o q
  · refine .inr (.inl ?_)
    cases e : H x with
    | none => rfl
    | some u => rw [a.hh x u e] at q; cases q
  · exact .inr (.inr q)
/-- a new object, frozen at once -/
theorem Gr.new {F H : Hp} {p : Addr} {o : HO} (e : Ex F H) (hp : H p = none) : Gr F H (upd F p o) (upd H p o) := by
  have hF : F p = none := Evl.fresh_back e hp
  refine ⟨Ex.new hF, fun a u h => ?_, Ex.new hp, fun a u h => ?_⟩
  · by_cases c : a = p
    · subst c
      rw [upd_same] at h ⊢
      exact h
    · rw [upd_ne c] at h ⊢
      exact e a u h
  · by_cases c : a = p
    · subst c
      exact .inr (.inl hp)
    · rw [upd_ne c] at h
      exact .inl h
/-- a new object that is left to itself -/
theorem Gr.loose {F H : Hp} {p : Addr} {o : HO} (e : Ex F H) (hp : H p = none) : Gr F H F (upd H p o) :=
  ⟨Ex.refl _, e.trans (Ex.new hp), Ex.new hp, fun _ _ h => .inl h⟩
theorem Rel.own {B : Hp} {N : Addr → Prop} {F H : Hp} {σ : St} {env : Env} (R : Rel B N F H σ env) {i : Nat} {q : Option Addr} {d : D} (h : env[i]? = some (.ow q d)) : ∃ p, σ[i]?.join = some (.ref p) ∧ B p = none ∧ F p = none ∧ OwnAt F H p d ∧ PinOk N p q := R.sl i _ h
theorem Rel.fz {B : Hp} {N : Addr → Prop} {F H : Hp} {σ : St} {env : Env} (R : Rel B N F H σ env) {i : Nat} {d : D} (h : env[i]? = some (.fz d)) : ∃ v, σ[i]? = some (some v) ∧ Rp F v d := by
  obtain ⟨v, e, r⟩ := R.sl i _ h
  refine ⟨v, ?_, r⟩
  cases q : σ[i]? with
  | none => rw [q] at e; cases e
  | some x => rw [q] at e; cases e; rfl
theorem join_some {α : Type} {x : Option (Option α)} {a : α} (h : x.join = some a) : x = some (some a) := by
  cases x with
  | none => cases h
  | some y => cases h; rfl
theorem Rel.grow {B : Hp} {N : Addr → Prop} {F H F' H' : Hp} {σ : St} {env : Env} (R : Rel B N F H σ env) (g : Gr F H F' H') : Rel B N F' H' σ env := by
  refine ⟨g.fh, R.bh.trans g.hh, fun a o h => ?_, fun a h => R.bn a (Evl.fresh_back g.hh h), R.len, fun i s h => ?_, R.ds⟩
  · rcases g.nw a o h with q | q | q
    · exact R.fn a o q
    · exact .inl (R.bn a q)
    · exact .inr q
  · have hs := R.sl i s h
    cases s with
    | no => trivial
    | fz d => obtain ⟨v, e, r⟩ := hs; exact ⟨v, e, r.mono g.ff⟩
    | lk p d => obtain ⟨a, od, u, b, c⟩ := hs; exact ⟨a, od, u, b, c.mono g.ff⟩
    | ow q d =>
      obtain ⟨p, e, h1, h2, h3, h4⟩ := hs
      refine ⟨p, e, h1, ?_, h3.mono g.ff fun o q => g.hh _ _ q, h4⟩
      cases q : F' p with
      | none => rfl
      | some u =>
        obtain ⟨o, ho, nt⟩ := h3.there
        have hu : u = o := by
          have a1 := g.hh _ _ ho
          rw [g.fh _ _ q] at a1
          exact Option.some.inj a1
        subst hu
        rcases g.nw p u q with z | z | z
        · rw [h2] at z; cases z
        · rw [ho] at z; cases z
        · exact (nt z).elim
theorem getElem?_set_join {σ : St} {i j : Nat} {x : Option V} (h : i ≠ j) : ((σ.set i x)[j]?).join = (σ[j]?).join := by rw [List.getElem?_set_ne h]
/-- a slot gets a frozen value -/
theorem Rel.set {B : Hp} {N : Addr → Prop} {F H : Hp} {σ : St} {env : Env} (R : Rel B N F H σ env) {i : Nat} {v : V} {d : D} (r : Rp F v d) : Rel B N F H (σ.set i (some v)) (env.set i (.fz d)) := by
  refine ⟨R.fh, R.bh, R.fn, R.bn, by rw [List.length_set, List.length_set, R.len], fun j s h => ?_, fun j k q1 q2 d1 d2 p h1 h2 => ?_⟩
  · by_cases c : i = j
    · subst c
      have hi : i < env.length := by
        have := (List.getElem?_eq_some_iff.mp h).1
        rwa [List.length_set] at this
      rw [List.getElem?_set_self hi] at h
      cases h
      rw [List.getElem?_set_self (by rw [R.len]; exact hi)]
      exact ⟨v, rfl, r⟩
    · rw [List.getElem?_set_ne c] at h
      rw [getElem?_set_join c]
      exact R.sl j s h
  · have c1 : i ≠ j := by
      rintro rfl
      have hi : i < env.length := by
        have := (List.getElem?_eq_some_iff.mp h1).1
        rwa [List.length_set] at this
      rw [List.getElem?_set_self hi] at h1
      cases h1
    have c2 : i ≠ k := by
      rintro rfl
      have hi : i < env.length := by
        have := (List.getElem?_eq_some_iff.mp h2).1
        rwa [List.length_set] at this
      rw [List.getElem?_set_self hi] at h2
      cases h2
    rw [List.getElem?_set_ne c1] at h1
    rw [List.getElem?_set_ne c2] at h2
    rw [getElem?_set_join c1, getElem?_set_join c2]
    exact R.ds j k q1 q2 d1 d2 p h1 h2
/-- a slot is no longer looked at -/
theorem Rel.drop {B : Hp} {N : Addr → Prop} {F H : Hp} {σ : St} {env : Env} (R : Rel B N F H σ env) (i : Nat) : Rel B N F H σ (env.set i .no) := by
  refine ⟨R.fh, R.bh, R.fn, R.bn, by rw [List.length_set, R.len], fun j s h => ?_, fun j k q1 q2 d1 d2 p h1 h2 => ?_⟩
  · by_cases c : i = j
    · subst c
      have hi : i < env.length := by
        have := (List.getElem?_eq_some_iff.mp h).1
        rwa [List.length_set] at this
      rw [List.getElem?_set_self hi] at h
      cases h
      trivial
    · rw [List.getElem?_set_ne c] at h
      exact R.sl j s h
  · have c1 : i ≠ j := by
      rintro rfl
      have hi : i < env.length := by
        have := (List.getElem?_eq_some_iff.mp h1).1
        rwa [List.length_set] at this
      rw [List.getElem?_set_self hi] at h1
      cases h1
    have c2 : i ≠ k := by
      rintro rfl
      have hi : i < env.length := by
        have := (List.getElem?_eq_some_iff.mp h2).1
        rwa [List.length_set] at this
      rw [List.getElem?_set_self hi] at h2
      cases h2
    rw [List.getElem?_set_ne c1] at h1
    rw [List.getElem?_set_ne c2] at h2
    exact R.ds j k q1 q2 d1 d2 p h1 h2
/-- a slot's value is forgotten -/
theorem Rel.wiped {B : Hp} {N : Addr → Prop} {F H : Hp} {σ : St} {env : Env} (R : Rel B N F H σ env) (i : Nat) : Rel B N F H (σ.set i none) (env.set i .no) := by
  refine ⟨R.fh, R.bh, R.fn, R.bn, by rw [List.length_set, List.length_set, R.len], fun j s h => ?_, fun j k q1 q2 d1 d2 p h1 h2 => ?_⟩
  · by_cases c : i = j
    · subst c
      have hi : i < env.length := by
        have := (List.getElem?_eq_some_iff.mp h).1
        rwa [List.length_set] at this
      rw [List.getElem?_set_self hi] at h
      cases h
      trivial
    · rw [List.getElem?_set_ne c] at h
      rw [getElem?_set_join c]
      exact R.sl j s h
  · have c1 : i ≠ j := by
      rintro rfl
      have hi : i < env.length := by
        have := (List.getElem?_eq_some_iff.mp h1).1
        rwa [List.length_set] at this
      rw [List.getElem?_set_self hi] at h1
      cases h1
    have c2 : i ≠ k := by
      rintro rfl
      have hi : i < env.length := by
        have := (List.getElem?_eq_some_iff.mp h2).1
        rwa [List.length_set] at this
      rw [List.getElem?_set_self hi] at h2
      cases h2
    rw [List.getElem?_set_ne c1] at h1
    rw [List.getElem?_set_ne c2] at h2
    rw [getElem?_set_join c1, getElem?_set_join c2]
    exact R.ds j k q1 q2 d1 d2 p h1 h2
/-- what the comprehension's own names hold is forgotten -/
def wipeD (env : Env) : List Nat → Env
  | [] => env
  | v :: vs => (wipeD env vs).set v .no
theorem Rel.wipe {B : Hp} {N : Addr → Prop} {F H : Hp} {σ : St} {env : Env} (R : Rel B N F H σ env) : ∀ vs : List Nat, Rel B N F H (L2.wipe σ vs) (wipeD env vs)
  | [] => R
  | v :: vs => (Rel.wipe R vs).wiped v
/-- an own object becomes frozen -/
theorem Rel.freeze {B : Hp} {N : Addr → Prop} {F H : Hp} {σ : St} {env : Env} (R : Rel B N F H σ env) {i : Nat} {d : D} (h : env[i]? = some (.ow none d)) : ∃ F', Ex F F' ∧ Rel B N F' H σ (env.set i (.fz d)) ∧ ∀ a o, F' a = some o → F a = some o ∨ (σ[i]?.join = some (.ref a) ∧ F a = none) := by
  obtain ⟨p, hp, h1, h2, h3, h4⟩ := R.own h
  obtain ⟨o, ho, nt⟩ := h3.there
  refine ⟨upd F p o, Ex.new h2, ⟨fun a u e => ?_, R.bh, fun a u e => ?_, R.bn, by rw [List.length_set, R.len], fun j s e => ?_, fun j k q1 q2 d1 d2 q e1 e2 => ?_⟩, fun a u e => ?_⟩
  · by_cases c : a = p
    · subst c
      rw [upd_same] at e
      cases e
      exact ho
    · rw [upd_ne c] at e
      exact R.fh a u e
  · by_cases c : a = p
    · subst c
      exact .inl h4
    · rw [upd_ne c] at e
      exact R.fn a u e
  · have hi : i < env.length := (List.getElem?_eq_some_iff.mp h).1
    by_cases c : i = j
    · subst c
      rw [List.getElem?_set_self hi] at e
      cases e
      exact ⟨_, hp, h3.rp (Ex.new h2) fun u hu => by rw [ho] at hu; cases hu; exact upd_same⟩
    · rw [List.getElem?_set_ne c] at e
      have q := R.sl j s e
      cases s with
      | no => trivial
      | fz x => obtain ⟨v, q1, q2⟩ := q; exact ⟨v, q1, q2.mono (Ex.new h2)⟩
      | lk p' x => obtain ⟨a, od, u, b, c⟩ := q; exact ⟨a, od, u, b, c.mono (Ex.new h2)⟩
      | ow z x =>
        obtain ⟨p', q1, q2, q3, q4, q5⟩ := q
        have np : p' ≠ p := by
          rintro rfl
          exact c (R.ds i j _ _ _ _ p' h e hp q1)
        exact ⟨p', q1, q2, by rw [upd_ne np]; exact q3, q4.mono (Ex.new h2) fun _ z => z, q5⟩
  · have hi : i < env.length := (List.getElem?_eq_some_iff.mp h).1
    have c1 : i ≠ j := by
      rintro rfl
      rw [List.getElem?_set_self hi] at e1
      cases e1
    have c2 : i ≠ k := by
      rintro rfl
      rw [List.getElem?_set_self hi] at e2
      cases e2
    rw [List.getElem?_set_ne c1] at e1
    rw [List.getElem?_set_ne c2] at e2
    exact R.ds j k q1 q2 d1 d2 q e1 e2
  · by_cases c : a = p
    · subst c
      exact .inr ⟨hp, h2⟩
    · rw [upd_ne c] at e
      exact .inl e
end DL

namespace DL
open PySem L2
open Evl (Ex)

/-! ### pure readings -/
def Ev (te : TE) (env : Env) (d : D) : Prop := ∀ B N F H σ, Rel B N F H σ env → ∀ Q : VK, (∀ v F' H', Gr F H F' H' → Rp F' v d → Q v H') → te σ H Q
def EvT (tt : TT) (env : Env) (b : Bool) : Prop := ∀ B N F H σ, Rel B N F H σ env → ∀ Q : Bool → Hp → Prop, (∀ F' H', Gr F H F' H' → Q b H') → tt σ H Q
def EvA (ta : TA) (env : Env) (ds : List D) : Prop := ∀ B N F H σ, Rel B N F H σ env → ∀ Q : List V → Hp → Prop, (∀ vs F' H', Gr F H F' H' → RpA F' vs ds → Q vs H') → ta σ H Q
def EvO (to : TO) (env : Env) (o : Option Int) : Prop := ∀ B N F H σ, Rel B N F H σ env → ∀ Q : Option Int → Hp → Prop, (∀ F' H', Gr F H F' H' → Q o H') → to σ H Q
/-- a new object, nobody else's -/
def EvN (te : TE) (env : Env) (d : D) : Prop := ∀ B N F H σ, Rel B N F H σ env → ∀ Q : VK, (∀ p F' H', Gr F H F' H' → H p = none → F' p = none → OwnAt F' H' p d → Q (.ref p) H') → te σ H Q
/-- what is walked: at turn i a thing worth ds[i] -/
def Yields (B F : Hp) (J : It) (ds : List D) : Prop := ∀ i F1 H1, Ex B H1 → Ex F F1 → Ex F1 H1 →
  (∀ d, ds[i]? = some d → J.go i H1 ∧ ∀ x H2, J.yld i H1 x H2 → ∃ F2, Gr F1 H1 F2 H2 ∧ Rp F2 x d) ∧ (ds.length ≤ i → J.stop i H1)
def EvI (wi : TI) (env : Env) (ds : List D) : Prop := ∀ B N F H σ, Rel B N F H σ env → ∀ R : It → Hp → Prop, (∀ J F' H', Gr F H F' H' → Yields B F' J ds → R J H') → wi σ H R
/-- a target: outside vs the slots stay -/
def wpG (g : TG) (d : D) (env env' : Env) (vs : List Nat) : Prop := ∀ B N F H σ v, Rel B N F H σ env → Rp F v d → ∀ Q : St → Hp → Prop,
  (∀ σ', Rel B N F H σ' env' → σ'.length = σ.length → (∀ i, i ∉ vs → σ'[i]? = σ[i]?) → Q σ' H) → g v σ H Q
/-- operations on values -/
def RO (r : R2) (x y d : D) : Prop := ∀ F H v w, Ex F H → Rp F v x → Rp F w y → ∀ Q : VK, (∀ v F' H', Gr F H F' H' → Rp F' v d → Q v H') → r v w H Q
def RU (r : V → Hp → VK → Prop) (x d : D) : Prop := ∀ F H v, Ex F H → Rp F v x → ∀ Q : VK, (∀ v F' H', Gr F H F' H' → Rp F' v d → Q v H') → r v H Q
def RC (r : List V → Hp → VK → Prop) (ds : List D) (d : D) : Prop := ∀ F H vs, Ex F H → RpA F vs ds → ∀ Q : VK, (∀ v F' H', Gr F H F' H' → Rp F' v d → Q v H') → r vs H Q
def RON (r : R2) (x y d : D) : Prop := ∀ F H v w, Ex F H → Rp F v x → Rp F w y → ∀ Q : VK, (∀ p F' H', Gr F H F' H' → H p = none → F' p = none → OwnAt F' H' p d → Q (.ref p) H') → r v w H Q
def RCN (r : List V → Hp → VK → Prop) (ds : List D) (d : D) : Prop := ∀ F H vs, Ex F H → RpA F vs ds → ∀ Q : VK, (∀ p F' H', Gr F H F' H' → H p = none → F' p = none → OwnAt F' H' p d → Q (.ref p) H') → r vs H Q

section
variable {env : Env} {te ta tb : TE} {d x y : D} {ds : List D}
theorem gr_none {F H F' H' : Hp} {p : Addr} (g : Gr F H F' H') (h : H' p = none) : H p = none := Evl.fresh_back g.hh h
theorem freezeN {F H F' H' : Hp} {p : Addr} (g : Gr F H F' H') (hp : H p = none) (hf : F' p = none) (o : OwnAt F' H' p d) : ∃ F2, Gr F H F2 H' ∧ Rp F2 (.ref p) d := by
  obtain ⟨u, hu, nt⟩ := o.there
  refine ⟨upd F' p u, ⟨g.ff.trans (Ex.new hf), fun a z e => ?_, g.hh, fun a z e => ?_⟩, o.rp (Ex.new hf) fun z hz => by rw [hu] at hz; cases hz; exact upd_same⟩
  · by_cases c : a = p
    · subst c
      rw [upd_same] at e
      cases e
      exact hu
    · rw [upd_ne c] at e
      exact g.fh a z e
  · by_cases c : a = p
    · subst c
      exact .inr (.inl hp)
    · rw [upd_ne c] at e
      exact g.nw a z e
theorem EvN.ev (h : EvN te env d) : Ev te env d := fun B N F H σ R Q q => h B N F H σ R Q fun p F' H' g hp hf o => by
  obtain ⟨F2, g2, r⟩ := freezeN g hp hf o
  exact q _ F2 H' g2 r
theorem ev_var {i : Nat} (h : env[i]? = some (.fz d)) : Ev (tVar i) env d := fun B N F H σ R Q q => by
  obtain ⟨v, e, r⟩ := R.fz h
  exact ⟨v, e, q v F H (Gr.refl R.fh) r⟩
theorem ev_int {i : Int} : Ev (tC (.int i)) env (.int i) := fun B N F H σ R Q q => q _ F H (Gr.refl R.fh) (.int i)
theorem ev_bl {i : Bool} : Ev (tC (.bl i)) env (.bl i) := fun B N F H σ R Q q => q _ F H (Gr.refl R.fh) (.bl i)
theorem ev_str {i : Str} : Ev (tC (.str i)) env (.str i) := fun B N F H σ R Q q => q _ F H (Gr.refl R.fh) (.str i)
theorem ev_non : Ev (tC .non) env .non := fun B N F H σ R Q q => q _ F H (Gr.refl R.fh) .non
theorem ev_ty {n : String} : Ev (tC (.ty n)) env (.ty n) := fun B N F H σ R Q q => q _ F H (Gr.refl R.fh) (.ty n)
theorem ev_op {r : R2} (ha : Ev ta env x) (hb : Ev tb env y) (hr : RO r x y d) : Ev (tOp r ta tb) env d := fun B N F H σ R Q q =>
  ha B N F H σ R _ fun v F1 H1 g1 r1 => hb B N F1 H1 σ (R.grow g1) _ fun w F2 H2 g2 r2 => hr F2 H2 v w g2.fh (r1.mono g2.ff) r2 Q fun z F3 H3 g3 r3 => q z F3 H3 ((g1.trans g2).trans g3) r3
theorem evN_op {r : R2} (ha : Ev ta env x) (hb : Ev tb env y) (hr : RON r x y d) : EvN (tOp r ta tb) env d := fun B N F H σ R Q q =>
  ha B N F H σ R _ fun v F1 H1 g1 r1 => hb B N F1 H1 σ (R.grow g1) _ fun w F2 H2 g2 r2 => hr F2 H2 v w g2.fh (r1.mono g2.ff) r2 Q fun p F3 H3 g3 hp hf o =>
    q p F3 H3 ((g1.trans g2).trans g3) (gr_none (g1.trans g2) hp) hf o
theorem ev_un {r : V → Hp → VK → Prop} (ha : Ev ta env x) (hr : RU r x d) : Ev (tUn r ta) env d := fun B N F H σ R Q q =>
  ha B N F H σ R _ fun v F1 H1 g1 r1 => hr F1 H1 v g1.fh r1 Q fun z F3 H3 g3 r3 => q z F3 H3 (g1.trans g3) r3
theorem ea_nil : EvA tNil env [] := fun B N F H σ R Q q => q [] F H (Gr.refl R.fh) .nil
theorem ea_cons {tr : TA} (h : Ev ta env x) (hr : EvA tr env ds) : EvA (tCons ta tr) env (x :: ds) := fun B N F H σ R Q q =>
  h B N F H σ R _ fun v F1 H1 g1 r1 => hr B N F1 H1 σ (R.grow g1) _ fun vs F2 H2 g2 r2 => q _ F2 H2 (g1.trans g2) (.cons (r1.mono g2.ff) r2)
theorem ev_cb {r : List V → Hp → VK → Prop} {ta : TA} (h : EvA ta env ds) (hr : RC r ds d) : Ev (tCB r ta) env d := fun B N F H σ R Q q =>
  h B N F H σ R _ fun vs F1 H1 g1 r1 => hr F1 H1 vs g1.fh r1 Q fun z F3 H3 g3 r3 => q z F3 H3 (g1.trans g3) r3
theorem evN_cb {r : List V → Hp → VK → Prop} {ta : TA} (h : EvA ta env ds) (hr : RCN r ds d) : EvN (tCB r ta) env d := fun B N F H σ R Q q =>
  h B N F H σ R _ fun vs F1 H1 g1 r1 => hr F1 H1 vs g1.fh r1 Q fun p F3 H3 g3 hp hf o => q p F3 H3 (g1.trans g3) (gr_none g1 hp) hf o
theorem ev_tup {ta : TA} (h : EvA ta env ds) (hl : ds.length ≤ 100000) : Ev (tTup ta) env (.tup ds) := fun B N F H σ R Q q =>
  h B N F H σ R _ fun vs F1 H1 g1 r1 => ⟨Evl.sz_of (by rw [r1.length]; exact hl), fun p hp =>
    q _ _ _ (g1.trans (Gr.new g1.fh hp)) (.tup upd_same (r1.mono (Ex.new (Evl.fresh_back g1.fh hp))))⟩
theorem evN_lst {ta : TA} (h : EvA ta env ds) (hl : ds.length ≤ 100000) : EvN (tLst ta) env (.lst ds) := fun B N F H σ R Q q =>
  h B N F H σ R _ fun vs F1 H1 g1 r1 => ⟨Evl.sz_of (by rw [r1.length]; exact hl), fun p hp =>
    q p F1 _ (g1.trans (Gr.loose g1.fh hp)) (gr_none g1 hp) (Evl.fresh_back g1.fh hp) ⟨vs, upd_same, r1⟩⟩
theorem eo_none : EvO tNoPart env none := fun B N F H σ R Q q => q F H (Gr.refl R.fh)
theorem eo_some {i : Int} (h : Ev te env (.int i)) : EvO (tPart te) env (some i) := fun B N F H σ R Q q =>
  h B N F H σ R _ fun v F1 H1 g1 r1 => by
    cases r1
    exact ⟨i, rfl, q F1 H1 g1⟩
theorem ev_is (h : Ev te env x) (e : x = d) : Ev te env d := e ▸ h
theorem evN_is (h : EvN te env x) (e : x = d) : EvN te env d := e ▸ h
/-! tests -/
variable {t u : TT} {a b : Bool}
theorem et_test (h : Ev te env (.bl b)) : EvT (tTest te) env b := fun B N F H σ R Q q => h B N F H σ R _ fun v F1 H1 g1 r1 => by
  cases r1
  exact ⟨b, rfl, q F1 H1 g1⟩
theorem et_B (h : Ev te env (.bl b)) : EvT (tB te) env b := fun B N F H σ R Q q => h B N F H σ R _ fun v F1 H1 g1 r1 => by
  cases r1
  exact ⟨b, rfl, q F1 H1 g1⟩
theorem et_yes : EvT tYes env true := fun B N F H σ R Q q => q F H (Gr.refl R.fh)
theorem et_and (h1 : EvT t env a) (h2 : a = true → EvT u env b) : EvT (tAnd t u) env (a && b) := fun B N F H σ R Q q => h1 B N F H σ R _ fun F1 H1 g1 => by
  cases a with
  | true => exact h2 rfl B N F1 H1 σ (R.grow g1) Q fun F2 H2 g2 => q F2 H2 (g1.trans g2)
  | false => exact q F1 H1 g1
theorem et_or (h1 : EvT t env a) (h2 : a = false → EvT u env b) : EvT (tOr t u) env (a || b) := fun B N F H σ R Q q => h1 B N F H σ R _ fun F1 H1 g1 => by
  cases a with
  | false => exact h2 rfl B N F1 H1 σ (R.grow g1) Q fun F2 H2 g2 => q F2 H2 (g1.trans g2)
  | true => exact q F1 H1 g1
theorem et_not (h1 : EvT t env a) : EvT (tNot t) env (!a) := fun B N F H σ R Q q => h1 B N F H σ R _ fun F1 H1 g1 => q F1 H1 g1
theorem et_is (h : EvT t env a) (e : a = b) : EvT t env b := e ▸ h
theorem ev_andV (h1 : Ev ta env (.bl a)) (h2 : a = true → Ev tb env (.bl b)) : Ev (tAndV ta tb) env (.bl (a && b)) := fun B N F H σ R Q q => h1 B N F H σ R _ fun v F1 H1 g1 r1 => by
  cases r1
  refine ⟨a, rfl, ?_⟩
  cases a with
  | true => exact h2 rfl B N F1 H1 σ (R.grow g1) Q fun v F2 H2 g2 r2 => q v F2 H2 (g1.trans g2) r2
  | false => exact q _ F1 H1 g1 (.bl false)
theorem ev_orV (h1 : Ev ta env (.bl a)) (h2 : a = false → Ev tb env (.bl b)) : Ev (tOrV ta tb) env (.bl (a || b)) := fun B N F H σ R Q q => h1 B N F H σ R _ fun v F1 H1 g1 r1 => by
  cases r1
  refine ⟨a, rfl, ?_⟩
  cases a with
  | false => exact h2 rfl B N F1 H1 σ (R.grow g1) Q fun v F2 H2 g2 r2 => q v F2 H2 (g1.trans g2) r2
  | true => exact q _ F1 H1 g1 (.bl true)
theorem ev_notV (h1 : Ev ta env (.bl a)) : Ev (tNotV ta) env (.bl (!a)) := fun B N F H σ R Q q => h1 B N F H σ R _ fun v F1 H1 g1 r1 => by
  cases r1
  exact ⟨a, rfl, q _ F1 H1 g1 (.bl _)⟩
/-- not x, x any test -/
theorem ev_if (h : EvT t env b) (h1 : b = true → Ev ta env d) (h2 : b = false → Ev tb env d) : Ev (tIf t ta tb) env d := fun B N F H σ R Q q => h B N F H σ R _ fun F1 H1 g1 => by
  cases b with
  | true => exact h1 rfl B N F1 H1 σ (R.grow g1) Q fun v F2 H2 g2 r2 => q v F2 H2 (g1.trans g2) r2
  | false => exact h2 rfl B N F1 H1 σ (R.grow g1) Q fun v F2 H2 g2 r2 => q v F2 H2 (g1.trans g2) r2
theorem ev_if2 {d1 d2 : D} (h : EvT t env b) (h1 : b = true → Ev ta env d1) (h2 : b = false → Ev tb env d2) : Ev (tIf t ta tb) env (if b = true then d1 else d2) := ev_if h (fun e => by rw [if_pos e]; exact h1 e) (fun e => by rw [if_neg (by rw [e]; decide)]; exact h2 e)
/-- truth -/
def TruD : D → Bool → Prop
  | .non, k => k = false
  | .bl b, k => k = b
  | .int i, k => k = (i != 0)
  | .str y, k => y.length ≤ 100000 ∧ k = ((y.length : Int) != 0)
  | .lst ds, k => k = !ds.isEmpty
  | .tup ds, k => k = !ds.isEmpty
  | .dK ds, k => k = !ds.isEmpty
  | _, _ => False
theorem isEmpty_len {α β : Type} {xs : List α} {ys : List β} (h : xs.length = ys.length) : xs.isEmpty = ys.isEmpty := by
  cases xs <;> cases ys <;> simp at h ⊢
theorem tru_rp {K : PySem.W.Frag} {F H : Hp} {v : V} {k : Bool} (e : Ex F H) (r : Rp F v d) (h : TruD d k) : TruV K v H k := by
  cases r with
  | non => exact h
  | bl b => exact h
  | int i => exact h
  | str x => exact ⟨Evl.sz_of h.1, h.2⟩
  | ty n => exact h.elim
  | lst h1 r => exact .inl ⟨_, .inl (.inl (e _ _ h1)), by rw [isEmpty_len r.length]; exact h⟩
  | tup h1 r => exact .inr (.inl ⟨_, .inl (.inl (e _ _ h1)), by rw [isEmpty_len r.length]; exact h⟩)
  | dK h1 k r => exact .inr (.inr ⟨_, e _ _ h1, by rw [isEmpty_len (by simpa using congrArg List.length k)]; exact h⟩)
  | dT => exact h.elim
  | ins => exact h.elim
  | dN => exact h.elim
end

/-! ### statements -/
structure DE where
  nx : Env → Prop
  rt : D → Env → Prop
  bk : Env → Prop := fun _ => False
  ct : Env → Prop := fun _ => False
structure Lk (B : Hp) (N : Addr → Prop) (F : Hp) (D' : DE) (De : Ends) : Prop where
  nx : ∀ F' H' σ' env', Ex F F' → Rel B N F' H' σ' env' → D'.nx env' → De.nx σ' H'
  rt : ∀ F' H' σ' env' v d, Ex F F' → Rel B N F' H' σ' env' → Rp F' v d → D'.rt d env' → De.rt v H'
  bk : ∀ F' H' σ' env', Ex F F' → Rel B N F' H' σ' env' → D'.bk env' → De.bk σ' H'
  ct : ∀ F' H' σ' env', Ex F F' → Rel B N F' H' σ' env' → D'.ct env' → De.ct σ' H'
theorem Lk.mono {B : Hp} {N : Addr → Prop} {F F' : Hp} {D' : DE} {De : Ends} (l : Lk B N F D' De) (e : Ex F F') : Lk B N F' D' De :=
  ⟨fun F' H' σ' env' e' => l.nx F' H' σ' env' (e.trans e'), fun F' H' σ' env' v d e' => l.rt F' H' σ' env' v d (e.trans e'), fun F' H' σ' env' e' => l.bk F' H' σ' env' (e.trans e'), fun F' H' σ' env' e' => l.ct F' H' σ' env' (e.trans e')⟩
def wpS (ts : TS) (env : Env) (D' : DE) : Prop := ∀ B N F H σ, Rel B N F H σ env → ∀ De : Ends, Lk B N F D' De → ts De σ H
section
variable {env : Env} {te : TE} {d : D} {D' : DE} {t u : TS} {tt : TT} {i : Nat}
theorem wps_next (h : D'.nx env) : wpS tNext env D' := fun B N F H σ R De l => l.nx F H σ env (Ex.refl F) R h
theorem wps_break (h : D'.bk env) : wpS tBreak env D' := fun B N F H σ R De l => l.bk F H σ env (Ex.refl F) R h
theorem wps_cont (h : D'.ct env) : wpS tCont env D' := fun B N F H σ R De l => l.ct F H σ env (Ex.refl F) R h
theorem wps_seq (h : wpS t env { D' with nx := fun e => wpS u e D' }) : wpS (tSeq t u) env D' := fun B N F H σ R De l =>
  h B N F H σ R { De with nx := u De } ⟨fun F' H' σ' env' e R' w => w B N F' H' σ' R' De (l.mono e), l.rt, l.bk, l.ct⟩
theorem wps_asg (h : Ev te env d) (k : D'.nx (env.set i (.fz d))) : wpS (tAsg te (gName i)) env D' := fun B N F H σ R De l =>
  h B N F H σ R _ fun v F1 H1 g1 r1 => l.nx F1 H1 _ _ g1.ff ((R.grow g1).set r1) k
theorem Rel.setOwn {B : Hp} {N : Addr → Prop} {F H F' H' : Hp} {σ : St} {p : Addr} (R : Rel B N F H σ env) (g : Gr F H F' H') (hp : H p = none) (hf : F' p = none) (o : OwnAt F' H' p d) : Rel B N F' H' (σ.set i (some (.ref p))) (env.set i (.ow none d)) := by
  have R' := R.grow g
  have hB : B p = none := Evl.fresh_back R.bh hp
  have hne : ∀ (j : Nat) (z : Option Addr) (d1 : D), env[j]? = some (.ow z d1) → (σ[j]?).join ≠ some (.ref p) := fun j z d1 h1 h2 => by
    obtain ⟨q, e, _, _, o2, _⟩ := R.own h1
    rw [h2] at e
    cases e
    obtain ⟨w, hw, _⟩ := o2.there
    rw [hp] at hw
    cases hw
  refine ⟨R'.fh, R'.bh, R'.fn, R'.bn, by rw [List.length_set, List.length_set, R.len], fun j s h => ?_, fun j k q1 q2 d1 d2 q h1 h2 e1 e2 => ?_⟩
  · by_cases c : i = j
    · subst c
      have hi : i < env.length := by
        have := (List.getElem?_eq_some_iff.mp h).1
        rwa [List.length_set] at this
      rw [List.getElem?_set_self hi] at h
      cases h
      rw [List.getElem?_set_self (by rw [R.len]; exact hi)]
      exact ⟨p, rfl, hB, hf, o, R.bn p hp⟩
    · rw [List.getElem?_set_ne c] at h
      rw [getElem?_set_join c]
      exact R'.sl j s h
  · by_cases cj : i = j
    · by_cases ck : i = k
      · exact cj.symm.trans ck
      · exfalso
        subst cj
        have hi : i < env.length := by
          have := (List.getElem?_eq_some_iff.mp h1).1
          rwa [List.length_set] at this
        rw [List.getElem?_set_self (by rw [R.len]; exact hi)] at e1
        cases e1
        rw [List.getElem?_set_ne ck] at h2
        rw [getElem?_set_join ck] at e2
        exact hne k q2 d2 h2 e2
    · by_cases ck : i = k
      · exfalso
        subst ck
        have hi : i < env.length := by
          have := (List.getElem?_eq_some_iff.mp h2).1
          rwa [List.length_set] at this
        rw [List.getElem?_set_self (by rw [R.len]; exact hi)] at e2
        cases e2
        rw [List.getElem?_set_ne cj] at h1
        rw [getElem?_set_join cj] at e1
        exact hne j q1 d1 h1 e1
      · rw [List.getElem?_set_ne cj] at h1
        rw [List.getElem?_set_ne ck] at h2
        rw [getElem?_set_join cj] at e1
        rw [getElem?_set_join ck] at e2
        exact R.ds j k q1 q2 d1 d2 q h1 h2 e1 e2
theorem wps_asgN (h : EvN te env d) (k : D'.nx (env.set i (.ow none d))) : wpS (tAsg te (gName i)) env D' := fun B N F H σ R De l =>
  h B N F H σ R _ fun p F1 H1 g1 hp hf o => l.nx F1 H1 _ _ g1.ff (R.setOwn g1 hp hf o) k
theorem wps_ret (h : Ev te env d) (k : D'.rt d env) : wpS (tRet te) env D' := fun B N F H σ R De l =>
  h B N F H σ R _ fun v F1 H1 g1 r1 => l.rt F1 H1 σ env v d g1.ff (R.grow g1) r1 k
theorem wps_retN (k : D'.rt .non env) : wpS tRetN env D' := fun B N F H σ R De l => l.rt F H σ env .non .non (Ex.refl F) R .non k
theorem wps_if {b : Bool} (h : EvT tt env b) (h1 : b = true → wpS t env D') (h2 : b = false → wpS u env D') : wpS (tIfS tt t u) env D' := fun B N F H σ R De l =>
  h B N F H σ R _ fun F1 H1 g1 => by
    cases b with
    | true => exact h1 rfl B N F1 H1 σ (R.grow g1) De (l.mono g1.ff)
    | false => exact h2 rfl B N F1 H1 σ (R.grow g1) De (l.mono g1.ff)
theorem wps_never (h : False) : wpS tNever env D' := h.elim
/-- an own object that is not changed any more -/
theorem wps_freeze (i : Nat) (hi : env[i]? = some (.ow none d)) (h : wpS t (env.set i (.fz d)) D') : wpS t env D' := fun B N F H σ R De l => by
  obtain ⟨F', e, R', _⟩ := R.freeze hi
  exact h B N F' H σ R' De (l.mono e)
theorem wps_drop (i : Nat) (h : wpS t (env.set i .no) D') : wpS t env D' := fun B N F H σ R De l => h B N F H σ (R.drop i) De l
theorem wps_expr (h : Ev te env d) (k : D'.nx env) : wpS (tDrop te) env D' := fun B N F H σ R De l => h B N F H σ R _ fun v F1 H1 g1 r1 => l.nx F1 H1 _ _ g1.ff (R.grow g1) k
/-! loops -/
theorem wps_for {α : Type} {wi : TI} {g : TG} {tb : TS} {xs : List α} {e : α → D} (hi : EvI wi env (xs.map e)) (I : Nat → Env → Prop) (h0 : I 0 env)
    (turn : ∀ i x env1, xs[i]? = some x → I i env1 → ∃ env2 vs, wpG g (e x) env1 env2 vs ∧ wpS tb env2 { D' with nx := I (i + 1), ct := I (i + 1), bk := D'.nx })
    (done : ∀ env1, I xs.length env1 → D'.nx env1) : wpS (tFor wi g tb) env D' := fun B N F H σ R De l =>
  hi B N F H σ R _ fun J F1 H1 g1 hy => by
    have l1 := l.mono g1.ff
    refine ⟨fun i m σ2 H2 => m = xs.length - i ∧ i ≤ xs.length ∧ ∃ F2 env2, Ex F1 F2 ∧ Rel B N F2 H2 σ2 env2 ∧ I i env2, ⟨xs.length, by simp, Nat.zero_le _, F1, env, Ex.refl _, R.grow g1, h0⟩, ?_⟩
    rintro i m σ2 H2 ⟨rfl, hle, F2, env2, ex, R2, p⟩
    obtain ⟨y1, y2⟩ := hy i F2 H2 R2.bh ex R2.fh
    by_cases hlt : i < xs.length
    · have hx : xs[i]? = some xs[i] := by simp [hlt]
      obtain ⟨go, yl⟩ := y1 (e xs[i]) (by rw [List.getElem?_map, hx] <;> rfl)
      refine .inr ⟨go, fun σ3 H3 => ∃ F3 env3, Ex F1 F3 ∧ Rel B N F3 H3 σ3 env3 ∧ I (i + 1) env3, fun σ3 H3 ⟨F3, env3, a1, a2, a3⟩ => ⟨xs.length - (i + 1), by omega, rfl, hlt, F3, env3, a1, a2, a3⟩, fun x H3 yd => ?_⟩
      obtain ⟨F3, g3, r3⟩ := yl x H3 yd
      obtain ⟨env3, vs, wg, ws⟩ := turn i xs[i] env2 hx p
      refine wg B N F3 H3 σ2 x (R2.grow g3) r3 _ fun σ3 R3 _ _ => ?_
      have ex3 : Ex F1 F3 := ex.trans g3.ff
      exact ws B N F3 H3 σ3 R3 _ ⟨fun F' H' σ' env' a b c => ⟨F', env', ex3.trans a, b, c⟩, (l1.mono ex3).rt, (l1.mono ex3).nx, fun F' H' σ' env' a b c => ⟨F', env', ex3.trans a, b, c⟩⟩
    · have e' : i = xs.length := by omega
      subst e'
      exact .inl ⟨y2 (by rw [List.length_map]; exact Nat.le_refl _), l1.nx F2 H2 σ2 env2 ex R2 (done env2 p)⟩
theorem wpg_name {j : Nat} {vs : List Nat} (h : j ∈ vs) : wpG (gName j) d env (env.set j (.fz d)) vs := fun B N F H σ v R r Q q =>
  q _ (R.set r) (by rw [List.length_set]) fun i hi => List.getElem?_set_ne fun c => hi (by rw [← c]; exact h)
theorem wps_while {tb : TS} (W : Nat → Env → Prop) (m0 : Nat) (h0 : W m0 env)
    (turn : ∀ m env1, W m env1 → ∃ b, EvT tt env1 b ∧ (b = true → wpS tb env1 { D' with nx := fun e => ∃ m', m' < m ∧ W m' e, ct := fun e => ∃ m', m' < m ∧ W m' e, bk := D'.nx }) ∧ (b = false → D'.nx env1)) : wpS (tWhile tt tb) env D' := fun B N F H σ R De l => by
  refine ⟨fun m σ2 H2 => ∃ F2 env2, Ex F F2 ∧ Rel B N F2 H2 σ2 env2 ∧ W m env2, ⟨m0, F, env, Ex.refl _, R, h0⟩, ?_⟩
  rintro m σ2 H2 ⟨F2, env2, ex, R2, w⟩
  obtain ⟨b, hb, k1, k2⟩ := turn m env2 w
  refine hb B N F2 H2 σ2 R2 _ fun F3 H3 g3 => ?_
  have ex3 : Ex F F3 := ex.trans g3.ff
  cases b with
  | true =>
    refine ⟨fun σ4 H4 => ∃ m', m' < m ∧ ∃ F4 env4, Ex F F4 ∧ Rel B N F4 H4 σ4 env4 ∧ W m' env4, fun σ4 H4 ⟨m', a, b⟩ => ⟨m', a, b⟩, ?_⟩
    exact k1 rfl B N F3 H3 σ2 (R2.grow g3) _ ⟨fun F' H' σ' env' a b ⟨m', c1, c2⟩ => ⟨m', c1, F', env', ex3.trans a, b, c2⟩, (l.mono ex3).rt, (l.mono ex3).nx, fun F' H' σ' env' a b ⟨m', c1, c2⟩ => ⟨m', c1, F', env', ex3.trans a, b, c2⟩⟩
  | false => exact l.nx F3 H3 σ2 env2 ex3 (R2.grow g3) (k2 rfl)
end

/-! ### what a def promises -/
def spR (S : List D → (D → Prop) → Prop) : Sp := fun vs H Q _ => ∃ F ds, Ex F H ∧ RpA F vs ds ∧ S ds fun d => ∀ v F' H', Gr F H F' H' → Rp F' v d → Q v H'
theorem ev_call {S : List D → (D → Prop) → Prop} {E : XK} {ta : TA} {env : Env} {ds : List D} {d : D} (h : EvA ta env ds) (hs : ∀ k : D → Prop, k d → S ds k) : Ev (tCall (spR S) [] E ta) env d := fun B N F H σ R Q q =>
  h B N F H σ R _ fun vs F1 H1 g1 r1 => ⟨F1, ds, g1.fh, by rw [List.append_nil]; exact r1, hs _ fun v F2 H2 g2 r2 => q v F2 H2 (g1.trans g2) r2⟩
theorem start_get {N : List Str} {vs : List V} {i : Nat} (h : i < vs.length) : (L2.start N vs)[i]? = some (vs[i]?) := by
  unfold L2.start
  rw [List.getElem?_append_left (by simpa using h), List.getElem?_map]
  have e : vs[i]? = some vs[i] := by simp [h]
  rw [e]
  rfl
theorem RpA.fz {F : Hp} {vs : List V} {ds : List D} (r : RpA F vs ds) {N : List Str} (hN : ds.length ≤ N.length) {B H : Hp} {M : Addr → Prop} {i : Nat} {s : Sl} (h : (ds.map Sl.fz ++ List.replicate (N.length - ds.length) Sl.no)[i]? = some s) : SlOk B M F H ((L2.start N vs)[i]?.join) s := by
  by_cases c : i < ds.length
  · rw [List.getElem?_append_left (by simpa using c), List.getElem?_map] at h
    have e : ds[i]? = some ds[i] := by simp [c]
    rw [e] at h
    cases h
    obtain ⟨v, h1, h2⟩ := r.get e
    rw [start_get (by rw [r.length]; exact c), h1]
    exact ⟨v, rfl, h2⟩
  · rw [List.getElem?_append_right (by simpa using c)] at h
    have := List.eq_of_mem_replicate (List.mem_of_getElem? h)
    subst this
    trivial
/-- the body of a def, over data, keeps the promise -/
theorem body_of {S : List D → (D → Prop) → Prop} {N ps : List Str} {t : TS} {vs : List V} {H : Hp} {Q : VK} {E : XK} (hps : ps.length ≤ N.length) (h : spR S vs H Q E) (hl : ∀ ds k, S ds k → ds.length = ps.length)
    (hw : ∀ ds k, S ds k → wpS t (ds.map Sl.fz ++ List.replicate (N.length - ds.length) Sl.no) { nx := fun _ => k .non, rt := fun d _ => k d }) : t { nx := fun _ H' => Q .non H', rt := Q } (L2.start N vs) H := by
  obtain ⟨F, ds, fh, r, hs⟩ := h
  have hlen := hl ds _ hs
  have gr : ∀ F' H' σ' env', Ex F F' → Rel H (fun a => F a ≠ none ∨ H a = none) F' H' σ' env' → Gr F H F' H' := fun F' H' σ' env' e R => ⟨e, R.fh, R.bh, fun a o q => by
    rcases R.fn a o q with (z | z) | z
    · cases w : F a with
      | none => exact (z w).elim
      | some u =>
        have := e a u w
        rw [q] at this
        exact .inl this.symm
    · exact .inr (.inl z)
    · exact .inr (.inr z)⟩
  refine hw ds _ hs H (fun a => F a ≠ none ∨ H a = none) F H (L2.start N vs) ⟨fh, Ex.refl _, fun a o e => .inl (.inl (by rw [e]; exact fun z => nomatch z)), fun a e => .inr e, ?_, fun i s e => r.fz (by omega) e, fun i j q q' d d' p e1 e2 => ?_⟩ _
    ⟨fun F' H' σ' env' e R k => k .non F' H' (gr F' H' σ' env' e R) .non, fun F' H' σ' env' v d e R r' k => k v F' H' (gr F' H' σ' env' e R) r', fun _ _ _ _ _ _ z => z.elim, fun _ _ _ _ _ _ z => z.elim⟩
  · unfold L2.start
    simp [r.length]
  · exfalso
    by_cases c : i < ds.length
    · rw [List.getElem?_append_left (by simpa using c), List.getElem?_map] at e1
      have e : ds[i]? = some ds[i] := by simp [c]
      rw [e] at e1
      cases e1
    · rw [List.getElem?_append_right (by simpa using c)] at e1
      have := List.eq_of_mem_replicate (List.mem_of_getElem? e1)
      cases this
end DL

/-! DL3: the operations over plain data. -/
namespace DL
open PySem L2
open Evl (Ex)
section
variable {K : PySem.W.Frag} {env : Env} {te ta tb : TE} {d x y : D} {ds es : List D}

/-! ### ints, bools -/
theorem ro_int {f : Int → Int → Int} {a b : Int} : RO (rI0 fun i j => .int (f i j)) (.int a) (.int b) (.int (f a b)) := fun F H v w e rv rw Q q => by
  cases rv
  cases rw
  exact ⟨a, b, rfl, rfl, q _ F H (Gr.refl e) (.int _)⟩
theorem ro_cmp {f : Int → Int → Bool} {a b : Int} : RO (rI0 fun i j => .bl (f i j)) (.int a) (.int b) (.bl (f a b)) := fun F H v w e rv rw Q q => by
  cases rv
  cases rw
  exact ⟨a, b, rfl, rfl, q _ F H (Gr.refl e) (.bl _)⟩
theorem ro_intC {C : Int → Int → Prop} {f : Int → Int → Int} {a b : Int} (h : C a b) : RO (rI C fun i j => .int (f i j)) (.int a) (.int b) (.int (f a b)) := fun F H v w e rv rw Q q => by
  cases rv
  cases rw
  exact ⟨a, b, rfl, rfl, h, q _ F H (Gr.refl e) (.int _)⟩
theorem ru_neg {a : Int} : RU (rU fun i => .int (-i)) (.int a) (.int (-a)) := fun F H v e rv Q q => by
  cases rv
  exact ⟨a, rfl, q _ F H (Gr.refl e) (.int _)⟩
theorem ro_isBl {a b : Bool} : RO rIsB (.bl a) (.bl b) (.bl (decide (a = b))) := fun F H v w e rv rw Q q => by
  cases rv
  cases rw
  exact ⟨a, b, rfl, rfl, q _ F H (Gr.refl e) (.bl _)⟩
theorem ro_notBl {a b : Bool} : RO rNotB (.bl a) (.bl b) (.bl (!decide (a = b))) := fun F H v w e rv rw Q q => by
  cases rv
  cases rw
  exact ⟨a, b, rfl, rfl, q _ F H (Gr.refl e) (.bl _)⟩
def D.isNon : D → Bool
  | .non => true
  | _ => false
theorem Rp.isNon {F : Hp} {v : V} (r : Rp F v d) : decide (v = .non) = d.isNon := by
  cases r <;> rfl
theorem ev_isN (h : Ev ta env d) : Ev (tIsN ta) env (.bl d.isNon) := fun B N F H σ R Q q => h B N F H σ R _ fun v F1 H1 g1 r1 => by
  show Q (.bl (decide (v = .non))) H1
  rw [r1.isNon]
  exact q _ F1 H1 g1 (.bl _)
theorem ev_notN (h : Ev ta env d) : Ev (tNotN ta) env (.bl (!d.isNon)) := fun B N F H σ R Q q => h B N F H σ R _ fun v F1 H1 g1 r1 => by
  show Q (.bl (!decide (v = .non))) H1
  rw [r1.isNon]
  exact q _ F1 H1 g1 (.bl _)
def tTru (K : PySem.W.Frag) (ta : TE) : TT := fun σ H Q => ta σ H fun x H' => ∃ k, TruV K x H' k ∧ Q k H'
theorem et_tru {k : Bool} (h : Ev ta env d) (ht : TruD d k) : EvT (tTru K ta) env k := fun B N F H σ R Q q => h B N F H σ R _ fun v F1 H1 g1 r1 =>
  ⟨k, tru_rp g1.fh r1 ht, q F1 H1 g1⟩

/-! ### == of plain data -/
mutual
def D.py : D → PyData
  | .non => .none
  | .bl b => .bool b
  | .int i => .int i
  | .str s => .str s
  | .lst xs => .list (D.pyA xs)
  | .tup xs => .tuple (D.pyA xs)
  | _ => .none
def D.pyA : List D → List PyData
  | [] => []
  | x :: xs => D.py x :: D.pyA xs
end
mutual
/-- plain, at most so deep -/
def D.pl : D → Nat → Bool
  | .non, _ => true
  | .bl _, _ => true
  | .int _, _ => true
  | .str s, _ => PyData.strOk s
  | .lst xs, n + 1 => D.plA xs n
  | .tup xs, n + 1 => D.plA xs n
  | _, _ => false
def D.plA : List D → Nat → Bool
  | [], _ => true
  | x :: xs, n => D.pl x n && D.plA xs n
end
theorem pyA_map (xs : List D) : D.pyA xs = xs.map D.py := by
  induction xs with
  | nil => rfl
  | cons x xs ih => simp [D.pyA, ih]
theorem plA_all (n : Nat) (xs : List D) : D.plA xs n = xs.all fun x => D.pl x n := by
  induction xs with
  | nil => rfl
  | cons x xs ih => simp [D.plA, ih]
mutual
theorem py_dp {F H : Hp} (e : Ex F H) : ∀ {v : V} {d : D} (n : Nat), Rp F v d → d.pl n = true → Dp K H v d.py
  | _, _, _, .non, _ => .non
  | _, _, _, .bl b, _ => .bl b
  | _, _, _, .int i, _ => .int i
  | _, _, _, .str x, _ => .str x
  | _, _, _, .ty n, h => by simp [D.pl] at h
  | _, _, n + 1, .lst h r, p => .lst (.inl (.inl (e _ _ h))) (py_dpA e n r (by simpa [D.pl] using p))
  | _, _, n + 1, .tup h r, p => .tup (.inl (.inl (e _ _ h))) (py_dpA e n r (by simpa [D.pl] using p))
  | _, _, 0, .lst h r, p => by simp [D.pl] at p
  | _, _, 0, .tup h r, p => by simp [D.pl] at p
  | _, _, _, .dK h k r, p => by simp [D.pl] at p
  | _, _, _, .dT h k r, p => by simp [D.pl] at p
  | _, _, _, .ins h k r, p => by simp [D.pl] at p
  | _, _, _, .dN h k r, p => by simp [D.pl] at p
theorem py_dpA {F H : Hp} (e : Ex F H) : ∀ {vs : List V} {ds : List D} (n : Nat), RpA F vs ds → D.plA ds n = true → DpAll K H vs (D.pyA ds)
  | _, _, _, .nil, _ => .nil
  | _, _, n, .cons h r, p => by
    rw [D.plA, Bool.and_eq_true] at p
    exact .cons (py_dp e n h p.1) (py_dpA e n r p.2)
end
mutual
theorem py_lay : ∀ (d : D) (n : Nat), d.pl n = true → d.py.canLay0 = true ∧ d.py.depth ≤ n
  | .non, _, _ => ⟨rfl, Nat.zero_le _⟩
  | .bl _, _, _ => ⟨rfl, Nat.zero_le _⟩
  | .int _, _, _ => ⟨rfl, Nat.zero_le _⟩
  | .str s, _, h => ⟨by simpa [D.py, PyData.canLay0, D.pl] using h, Nat.zero_le _⟩
  | .lst xs, n + 1, h => by
    have := py_layA xs n (by simpa [D.pl] using h)
    exact ⟨by simpa [D.py, PyData.canLay0] using this.1, by simpa [D.py, PyData.depth] using this.2⟩
  | .tup xs, n + 1, h => by
    have := py_layA xs n (by simpa [D.pl] using h)
    exact ⟨by simpa [D.py, PyData.canLay0] using this.1, by simpa [D.py, PyData.depth] using this.2⟩
  | .lst xs, 0, h => by simp [D.pl] at h
  | .tup xs, 0, h => by simp [D.pl] at h
  | .dK _, _, h => by simp [D.pl] at h
  | .dT _, _, h => by simp [D.pl] at h
  | .ins _ _, _, h => by simp [D.pl] at h
  | .ty _, _, h => by simp [D.pl] at h
  | .dN _ _, _, h => by simp [D.pl] at h
theorem py_layA : ∀ (ds : List D) (n : Nat), D.plA ds n = true → PyData.canLayAll0 (D.pyA ds) = true ∧ PyData.depthAll (D.pyA ds) ≤ n
  | [], _, _ => ⟨rfl, Nat.zero_le _⟩
  | d :: ds, n, h => by
    rw [D.plA, Bool.and_eq_true] at h
    have h1 := py_lay d n h.1
    have h2 := py_layA ds n h.2
    refine ⟨by simp [D.pyA, PyData.canLayAll0, h1.1, h2.1], ?_⟩
    simp only [D.pyA, PyData.depthAll]
    exact Nat.max_le.mpr ⟨h1.2, h2.2⟩
end
theorem py_shaped {n : Nat} (h : d.pl n = true) (hn : n ≤ 64) : SeqAt.shaped d.py = true := by
  have := py_lay d n h
  unfold SeqAt.shaped
  rw [this.1, Bool.true_and, decide_eq_true_eq]
  omega
def D.eqv (x y : D) : Bool := PyData.eqv x.py y.py
theorem ro_eqD {n : Nat} (h1 : x.pl n = true) (h2 : y.pl n = true) (hn : n ≤ 64 := by decide) : RO (rEqD K) x y (.bl (x.eqv y)) := fun F H v w e rv rw Q q =>
  ⟨x.py, y.py, py_dp e n rv h1, py_dp e n rw h2, py_shaped h1 hn, py_shaped h2 hn, q _ F H (Gr.refl e) (.bl _)⟩
theorem ro_neD {n : Nat} (h1 : x.pl n = true) (h2 : y.pl n = true) (hn : n ≤ 64 := by decide) : RO (rNeD K) x y (.bl (!x.eqv y)) := fun F H v w e rv rw Q q =>
  ⟨x.py, y.py, py_dp e n rv h1, py_dp e n rw h2, py_shaped h1 hn, py_shaped h2 hn, q _ F H (Gr.refl e) (.bl _)⟩
/-- a kind of data, told apart by == as it is -/
structure Faith {α : Type} [DecidableEq α] (e : α → D) : Prop where
  eqv : ∀ x y, (e x).eqv (e y) = decide (x = y)
theorem faith_int : Faith D.int := ⟨fun x y => by
  show (x == y) = decide (x = y)
  exact Bool.beq_eq_decide_eq x y⟩
theorem faith_str : Faith D.str := ⟨fun x y => by
  show (x == y) = decide (x = y)
  exact Bool.beq_eq_decide_eq x y⟩
theorem faith_all {α : Type} [DecidableEq α] {e : α → D} (h : Faith e) : ∀ xs ys : List α, PyData.eqvAll (D.pyA (xs.map e)) (D.pyA (ys.map e)) = decide (xs = ys)
  | [], [] => by simp [D.pyA, PyData.eqvAll]
  | [], y :: ys => by simp [D.pyA, PyData.eqvAll]
  | x :: xs, [] => by simp [D.pyA, PyData.eqvAll]
  | x :: xs, y :: ys => by
    have h1 := h.eqv x y
    have h2 := faith_all h xs ys
    unfold D.eqv at h1
    simp only [List.map_cons, D.pyA, PyData.eqvAll, h1, h2, List.cons.injEq, Bool.decide_and]
theorem faith_lst {α : Type} [DecidableEq α] {e : α → D} (h : Faith e) : Faith fun xs : List α => D.lst (xs.map e) := ⟨fun xs ys => by
  show PyData.eqv (.list _) (.list _) = _
  rw [PyData.eqv]
  exact faith_all h xs ys⟩
theorem faith_tup {α : Type} [DecidableEq α] {e : α → D} (h : Faith e) : Faith fun xs : List α => D.tup (xs.map e) := ⟨fun xs ys => by
  show PyData.eqv (.tuple _) (.tuple _) = _
  rw [PyData.eqv]
  exact faith_all h xs ys⟩
theorem faith_pair {α β : Type} [DecidableEq α] [DecidableEq β] {e : α → D} {f : β → D} (h : Faith e) (g : Faith f) : Faith fun p : α × β => D.tup [e p.1, f p.2] := ⟨fun p q => by
  show PyData.eqv (.tuple _) (.tuple _) = _
  have h1 := h.eqv p.1 q.1
  have h2 := g.eqv p.2 q.2
  unfold D.eqv at h1 h2
  rw [PyData.eqv]
  simp only [D.pyA, PyData.eqvAll, h1, h2, Bool.and_true]
  rw [← Bool.decide_and]
  exact decide_eq_decide.mpr Prod.ext_iff.symm⟩
def tI (ns : List Int) : D := .tup (ns.map D.int)
def lI (ns : List Int) : D := .lst (ns.map D.int)
theorem faith_tI : Faith tI := faith_tup faith_int
theorem faith_lI : Faith lI := faith_lst faith_int
theorem pl_map {α : Type} {e : α → D} {n : Nat} (h : ∀ x, (e x).pl n = true) (xs : List α) : D.plA (xs.map e) n = true := by
  rw [plA_all, List.all_eq_true]
  intro z hz
  obtain ⟨a, _, rfl⟩ := List.mem_map.mp hz
  exact h a
theorem pl_lst {α : Type} {e : α → D} {n : Nat} (h : ∀ x, (e x).pl n = true) (xs : List α) : (D.lst (xs.map e)).pl (n + 1) = true := by
  show D.plA (xs.map e) n = true
  exact pl_map h xs
theorem pl_tup {α : Type} {e : α → D} {n : Nat} (h : ∀ x, (e x).pl n = true) (xs : List α) : (D.tup (xs.map e)).pl (n + 1) = true := by
  show D.plA (xs.map e) n = true
  exact pl_map h xs
theorem pl_tI (ns : List Int) : (tI ns).pl 1 = true := pl_tup (n := 0) (fun _ => rfl) ns
theorem pl_lI (ns : List Int) : (lI ns).pl 1 = true := pl_lst (n := 0) (fun _ => rfl) ns

/-! ### sequences -/
def LenD : D → Nat → Prop
  | .str y, n => y.length ≤ 100000 ∧ n = y.length
  | .lst ds, n => n = ds.length
  | .tup ds, n => n = ds.length
  | _, _ => False
theorem rc_len {n : Nat} (h : LenD d n) : RC (fun xs H Q => ∃ x n, xs = [x] ∧ LenV K x H n ∧ Q (.int n) H) [d] (.int n) := fun F H vs e rv Q q => by
  cases rv with
  | cons r rn =>
    cases rn
    cases r with
    | str x => exact ⟨_, n, rfl, ⟨Evl.sz_of h.1, h.2⟩, q _ F H (Gr.refl e) (.int _)⟩
    | lst h1 r => exact ⟨_, n, rfl, .inl ⟨_, .inl (.inl (e _ _ h1)), by rw [r.length]; exact h⟩, q _ F H (Gr.refl e) (.int _)⟩
    | tup h1 r => exact ⟨_, n, rfl, .inr ⟨_, .inl (.inl (e _ _ h1)), by rw [r.length]; exact h⟩, q _ F H (Gr.refl e) (.int _)⟩
    | _ => exact h.elim
theorem atI_rp {F : Hp} {vs : List V} {i : Int} (r : RpA F vs ds) (h : atI ds i = some d) : ∃ v, atI vs i = some v ∧ Rp F v d := by
  unfold atI at h ⊢
  rw [r.length]
  cases e : ixN ds.length i with
  | none => rw [e] at h; cases h
  | some j =>
    rw [e] at h
    exact r.get h
theorem ro_ixL {i : Int} (h : atI ds i = some d) : RO (rIxL K) (.lst ds) (.int i) d := fun F H v w e rv rw Q q => by
  cases rv with
  | lst h1 r =>
    cases rw
    obtain ⟨u, hu, ru⟩ := atI_rp r h
    exact ⟨_, _, i, u, rfl, rfl, .inl (.inl (e _ _ h1)), hu, q _ F H (Gr.refl e) ru⟩
theorem ro_ixT {i : Int} (h : atI ds i = some d) : RO (rIxT K) (.tup ds) (.int i) d := fun F H v w e rv rw Q q => by
  cases rv with
  | tup h1 r =>
    cases rw
    obtain ⟨u, hu, ru⟩ := atI_rp r h
    exact ⟨_, _, i, u, rfl, rfl, .inl (.inl (e _ _ h1)), hu, q _ F H (Gr.refl e) ru⟩
theorem atI_nat' {α : Type} {xs : List α} {j : Nat} {v : α} (h : xs[j]? = some v) : atI xs (j : Int) = some v := by
  unfold atI
  have hj : j < xs.length := (List.getElem?_eq_some_iff.mp h).1
  rw [Evl.ixN_nat hj]
  exact h
/-- the items of xs[lo:hi] -/
def cutD {α : Type} (xs : List α) (lo hi : Option Int) : List α := (xs.drop (HT.sIx xs.length 0 lo)).take (HT.sIx xs.length xs.length hi - HT.sIx xs.length 0 lo)
theorem RpA.cut {F : Hp} {vs : List V} (r : RpA F vs ds) (lo hi : Option Int) : RpA F (cutV vs lo hi) (cutD ds lo hi) := by
  unfold cutV cutD
  rw [r.length]
  exact (r.drop _).take _
theorem cutD_map {α β : Type} (f : α → β) (xs : List α) (lo hi : Option Int) : cutD (xs.map f) lo hi = (cutD xs lo hi).map f := by
  unfold cutD
  rw [List.length_map, List.map_take, List.map_drop]
theorem sIx_nat (n d k : Nat) : HT.sIx n d (some (k : Int)) = min k n := by
  show (if (k : Int) < 0 then ((k : Int) + (n : Int)).toNat else min (k : Int).toNat n) = min k n
  rw [if_neg (by omega), Int.toNat_natCast]
theorem cutD_to {α : Type} (xs : List α) (k : Nat) : cutD xs none (some (k : Int)) = xs.take k := by
  unfold cutD
  rw [sIx_nat]
  show (xs.drop 0).take (min k xs.length - 0) = xs.take k
  rw [List.drop_zero, Nat.sub_zero]
  by_cases h : k ≤ xs.length
  · rw [Nat.min_eq_left h]
  · rw [Nat.min_eq_right (by omega), List.take_length, List.take_of_length_le (by omega)]
theorem cutD_from {α : Type} (xs : List α) (k : Nat) : cutD xs (some (k : Int)) none = xs.drop k := by
  unfold cutD
  rw [sIx_nat]
  show (xs.drop (min k xs.length)).take (xs.length - min k xs.length) = xs.drop k
  by_cases h : k ≤ xs.length
  · rw [Nat.min_eq_left h, List.take_of_length_le (by simp)]
  · rw [Nat.min_eq_right (by omega), List.drop_length, List.drop_of_length_le (by omega)]
    simp
theorem ev_slT {tl th : TO} {lo hi : Option Int} (h : Ev te env (.tup ds)) (h1 : EvO tl env lo) (h2 : EvO th env hi) : Ev (tSl (rSlA K) te tl th) env (.tup (cutD ds lo hi)) := fun B N F H σ R Q q =>
  h B N F H σ R _ fun v F1 H1 g1 r1 => h1 B N F1 H1 σ (R.grow g1) _ fun F2 H2 g2 => h2 B N F2 H2 σ (R.grow (g1.trans g2)) _ fun F3 H3 g3 => by
    cases r1 with
    | @tup a vs _ e r =>
      have e3 : F3 a = some (.tup vs) := g3.ff _ _ (g2.ff _ _ e)
      have r3 := r.mono (g2.trans g3).ff
      have gg := (g1.trans g2).trans g3
      refine ⟨_, vs, rfl, .inl (.inl (gg.fh _ _ e3)), fun hw => ?_, fun hw p hp => ?_⟩
      · refine q _ F3 H3 gg ?_
        have ec : cutV vs lo hi = vs := by
          unfold cutV
          rw [hw.1, hw.2]
          simp
        have rc := r3.cut lo hi
        rw [ec] at rc
        exact .tup e3 rc
      · exact q _ _ _ (gg.trans (Gr.new gg.fh hp)) (.tup upd_same ((r3.cut lo hi).mono (Ex.new (Evl.fresh_back gg.fh hp))))
theorem evN_slL {tl th : TO} {lo hi : Option Int} (h : Ev te env (.lst ds)) (h1 : EvO tl env lo) (h2 : EvO th env hi) : EvN (tSl (rSlL K) te tl th) env (.lst (cutD ds lo hi)) := fun B N F H σ R Q q =>
  h B N F H σ R _ fun v F1 H1 g1 r1 => h1 B N F1 H1 σ (R.grow g1) _ fun F2 H2 g2 => h2 B N F2 H2 σ (R.grow (g1.trans g2)) _ fun F3 H3 g3 => by
    cases r1 with
    | @lst a vs _ e r =>
      have e3 : F3 a = some (.lst vs) := g3.ff _ _ (g2.ff _ _ e)
      have r3 := r.mono (g2.trans g3).ff
      have gg := (g1.trans g2).trans g3
      exact ⟨_, vs, rfl, .inl (.inl (gg.fh _ _ e3)), fun p hp => q p F3 _ (gg.trans (Gr.loose gg.fh hp)) (gr_none gg hp) (Evl.fresh_back gg.fh hp) ⟨_, upd_same, r3.cut lo hi⟩⟩
/-- t + u, tuples -/
theorem ro_catT (hl : ds.length + es.length ≤ 100000) : RO (rCatA K) (.tup ds) (.tup es) (.tup (ds ++ es)) := fun F H v w e rv rw Q q => by
  cases rv with
  | @tup a vs _ ea r =>
    cases rw with
    | @tup b ws _ eb s =>
      refine ⟨a, b, vs, ws, rfl, rfl, .inl (.inl (e _ _ ea)), .inl (.inl (e _ _ eb)), Evl.sz_of (by rw [r.length, s.length]; exact hl), fun h => ?_, fun _ h => ?_, fun _ _ p hp => ?_⟩
      · subst h
        cases r
        exact q _ F H (Gr.refl e) (.tup eb s)
      · subst h
        cases s
        rw [List.append_nil] at q
        exact q _ F H (Gr.refl e) (.tup ea r)
      · exact q _ _ _ (Gr.new e hp) (.tup upd_same ((r.append s).mono (Ex.new (Evl.fresh_back e hp))))
/-- xs + ys, lists -/
theorem ron_catL (hl : ds.length + es.length ≤ 100000) : RON rCat (.lst ds) (.lst es) (.lst (ds ++ es)) := fun F H v w e rv rw Q q => by
  cases rv with
  | @lst a vs _ ea r =>
    cases rw with
    | @lst b ws _ eb s =>
      exact ⟨a, b, vs, ws, rfl, rfl, e _ _ ea, e _ _ eb, Evl.sz_of (by rw [r.length, s.length]; exact hl), fun p hp => q p F _ (Gr.loose e hp) hp (Evl.fresh_back e hp) ⟨_, upd_same, r.append s⟩⟩
/-- tuple(xs) -/
theorem rc_tupL : RC (fun xs H Q => ∃ p ys, xs = [.ref p] ∧ ((SqL K H p ys ∧ ∀ l, H l = none → Q (.ref l) (upd H l (.tup ys))) ∨ (SqT K H p ys ∧ Q (.ref p) H))) [.lst ds] (.tup ds) := fun F H vs e rv Q q => by
  cases rv with
  | cons r rn =>
    cases rn
    cases r with
    | lst h1 r => exact ⟨_, _, rfl, .inl ⟨.inl (.inl (e _ _ h1)), fun p hp => q _ _ _ (Gr.new e hp) (.tup upd_same (r.mono (Ex.new (Evl.fresh_back e hp))))⟩⟩
theorem rc_tupT : RC (fun xs H Q => ∃ p ys, xs = [.ref p] ∧ ((SqL K H p ys ∧ ∀ l, H l = none → Q (.ref l) (upd H l (.tup ys))) ∨ (SqT K H p ys ∧ Q (.ref p) H))) [.tup ds] (.tup ds) := fun F H vs e rv Q q => by
  cases rv with
  | cons r rn =>
    cases rn
    cases r with
    | tup h1 r => exact ⟨_, _, rfl, .inr ⟨.inl (.inl (e _ _ h1)), q _ F H (Gr.refl e) (.tup h1 r)⟩⟩
/-- list(xs) -/
def SeqD : D → List D → Prop
  | .lst xs, ys => xs = ys
  | .tup xs, ys => xs = ys
  | _, _ => False
theorem rcn_list (h : SeqD d ds) : RCN (fun xs H Q => ∃ p ys, xs = [.ref p] ∧ (SqL K H p ys ∨ SqT K H p ys) ∧ ∀ l, H l = none → Q (.ref l) (upd H l (.lst ys))) [d] (.lst ds) := fun F H vs e rv Q q => by
  cases rv with
  | cons r rn =>
    cases rn
    cases r with
    | lst h1 r =>
      cases (show _ = ds from h)
      exact ⟨_, _, rfl, .inl (.inl (.inl (e _ _ h1))), fun p hp => q p F _ (Gr.loose e hp) hp (Evl.fresh_back e hp) ⟨_, upd_same, r⟩⟩
    | tup h1 r =>
      cases (show _ = ds from h)
      exact ⟨_, _, rfl, .inr (.inl (.inl (e _ _ h1))), fun p hp => q p F _ (Gr.loose e hp) hp (Evl.fresh_back e hp) ⟨_, upd_same, r⟩⟩
    | _ => exact h.elim
/-- list(range(..)) -/
def rgD (a b : Int) : List D := (List.range (b - a).toNat).map fun (i : Nat) => D.int (a + (i : Int))
theorem rgD_rp {F : Hp} (a b : Int) : RpA F (rgV a b) (rgD a b) := by
  have h : ∀ l : List Nat, RpA F (l.map fun (i : Nat) => V.int (a + (i : Int))) (l.map fun (i : Nat) => D.int (a + (i : Int))) := fun l => by
    induction l with
    | nil => exact .nil
    | cons x l ih => exact .cons (.int _) ih
  exact h _
theorem evN_lrg1 {n : Int} (h : Ev ta env (.int n)) (ok : RgOk 0 n) : EvN (tLstRg (tRg1 ta)) env (.lst (rgD 0 n)) := fun B N F H σ R Q q => h B N F H σ R _ fun v F1 H1 g1 r1 => by
  cases r1
  exact ⟨n, rfl, ok, fun p hp => q p F1 _ (g1.trans (Gr.loose g1.fh hp)) (gr_none g1 hp) (Evl.fresh_back g1.fh hp) ⟨_, upd_same, rgD_rp 0 n⟩⟩
theorem evN_lrg2 {m n : Int} (h : Ev ta env (.int m)) (h2 : Ev tb env (.int n)) (ok : RgOk m n) : EvN (tLstRg (tRg2 ta tb)) env (.lst (rgD m n)) := fun B N F H σ R Q q => h B N F H σ R _ fun v F1 H1 g1 r1 => h2 B N F1 H1 σ (R.grow g1) _ fun w F2 H2 g2 r2 => by
  cases r1
  cases r2
  have gg := g1.trans g2
  exact ⟨m, n, rfl, rfl, ok, fun p hp => q p F2 _ (gg.trans (Gr.loose gg.fh hp)) (gr_none gg hp) (Evl.fresh_back gg.fh hp) ⟨_, upd_same, rgD_rp m n⟩⟩
/-! calls over lists -/
theorem rc_sum {ns : List Int} : RC (rSum K) [.lst (ns.map D.int)] (.int ns.sum) := fun F H vs e rv Q q => by
  cases rv with
  | cons r rn =>
    cases rn
    cases r with
    | lst h1 r =>
      have := r.ints_eq
      subst this
      exact ⟨_, ns, rfl, .inl (.inl (e _ _ h1)), q _ F H (Gr.refl e) (.int _)⟩
theorem rc_any {bs : List Bool} : RC (rAny K) [.lst (bs.map D.bl)] (.bl (bs.any id)) := fun F H vs e rv Q q => by
  cases rv with
  | cons r rn =>
    cases rn
    cases r with
    | lst h1 r =>
      have := r.bls_eq
      subst this
      exact ⟨_, bs, rfl, .inl (.inl (e _ _ h1)), q _ F H (Gr.refl e) (.bl _)⟩
theorem rc_all {bs : List Bool} : RC (rAll K) [.lst (bs.map D.bl)] (.bl (bs.all id)) := fun F H vs e rv Q q => by
  cases rv with
  | cons r rn =>
    cases rn
    cases r with
    | lst h1 r =>
      have := r.bls_eq
      subst this
      exact ⟨_, bs, rfl, .inl (.inl (e _ _ h1)), q _ F H (Gr.refl e) (.bl _)⟩
def maxL : List Int → Int
  | [] => 0
  | x :: xs => xs.foldl max x
def minL : List Int → Int
  | [] => 0
  | x :: xs => xs.foldl min x
theorem foldl_max (xs : List Int) : ∀ x, (xs.foldl max x = x ∨ xs.foldl max x ∈ xs) ∧ x ≤ xs.foldl max x ∧ ∀ y ∈ xs, y ≤ xs.foldl max x := by
  induction xs with
  | nil => intro x; simp
  | cons a xs ih =>
    intro x
    obtain ⟨h1, h2, h3⟩ := ih (max x a)
    simp only [List.foldl_cons, List.mem_cons]
    refine ⟨?_, by omega, fun y hy => ?_⟩
    · rcases h1 with h | h
      · rw [h]
        rcases Int.le_total x a with q | q
        · right; left; omega
        · left; omega
      · right; right; exact h
    · rcases hy with rfl | hy
      · omega
      · exact h3 y hy
theorem foldl_min (xs : List Int) : ∀ x, (xs.foldl min x = x ∨ xs.foldl min x ∈ xs) ∧ xs.foldl min x ≤ x ∧ ∀ y ∈ xs, xs.foldl min x ≤ y := by
  induction xs with
  | nil => intro x; simp
  | cons a xs ih =>
    intro x
    obtain ⟨h1, h2, h3⟩ := ih (min x a)
    simp only [List.foldl_cons, List.mem_cons]
    refine ⟨?_, by omega, fun y hy => ?_⟩
    · rcases h1 with h | h
      · rw [h]
        rcases Int.le_total x a with q | q
        · left; omega
        · right; left; omega
      · right; right; exact h
    · rcases hy with rfl | hy
      · omega
      · exact h3 y hy
theorem maxL_is {ns : List Int} {m : Int} (h : m ∈ ns) (ge : ∀ y ∈ ns, y ≤ m) : m = maxL ns := by
  cases ns with
  | nil => cases h
  | cons x xs =>
    obtain ⟨h1, h2, h3⟩ := foldl_max xs x
    show m = xs.foldl max x
    have a1 : m ≤ xs.foldl max x := by
      rcases List.mem_cons.mp h with rfl | h
      · exact h2
      · exact h3 m h
    have a2 : xs.foldl max x ≤ m := by
      rcases h1 with q | q
      · rw [q]; exact ge x List.mem_cons_self
      · exact ge _ (List.mem_cons_of_mem _ q)
    omega
theorem minL_is {ns : List Int} {m : Int} (h : m ∈ ns) (ge : ∀ y ∈ ns, m ≤ y) : m = minL ns := by
  cases ns with
  | nil => cases h
  | cons x xs =>
    obtain ⟨h1, h2, h3⟩ := foldl_min xs x
    show m = xs.foldl min x
    have a1 : xs.foldl min x ≤ m := by
      rcases List.mem_cons.mp h with rfl | h
      · exact h2
      · exact h3 m h
    have a2 : m ≤ xs.foldl min x := by
      rcases h1 with q | q
      · rw [q]; exact ge x List.mem_cons_self
      · exact ge _ (List.mem_cons_of_mem _ q)
    omega
theorem rc_max {ns : List Int} (h0 : SeqD d (ns.map D.int)) (hl : d = .lst (ns.map D.int)) (hn : ns ≠ []) : RC (rMax K) [d] (.int (maxL ns)) := fun F H vs e rv Q q => by
  subst hl
  cases rv with
  | cons r rn =>
    cases rn
    cases r with
    | lst h1 r =>
      have := r.ints_eq
      subst this
      exact ⟨_, ns, rfl, .inl (.inl (e _ _ h1)), List.length_pos_iff.mpr hn, fun m hm ge => by rw [maxL_is hm ge]; exact q _ F H (Gr.refl e) (.int _)⟩
theorem rc_min {ns : List Int} (hn : ns ≠ []) : RC (rMin K) [.lst (ns.map D.int)] (.int (minL ns)) := fun F H vs e rv Q q => by
  cases rv with
  | cons r rn =>
    cases rn
    cases r with
    | lst h1 r =>
      have := r.ints_eq
      subst this
      exact ⟨_, ns, rfl, .inl (.inl (e _ _ h1)), List.length_pos_iff.mpr hn, fun m hm ge => by rw [minL_is hm ge]; exact q _ F H (Gr.refl e) (.int _)⟩
theorem rc_max2 {a b : Int} : RC (fun xs H Q => ∃ i j, xs = [.int i, .int j] ∧ Q (.int (if j > i then j else i)) H) [.int a, .int b] (.int (if b > a then b else a)) := fun F H vs e rv Q q => by
  cases rv with
  | cons r rn =>
    cases rn with
    | cons r2 rn =>
      cases rn
      cases r
      cases r2
      exact ⟨a, b, rfl, q _ F H (Gr.refl e) (.int _)⟩
theorem rc_min2 {a b : Int} : RC (fun xs H Q => ∃ i j, xs = [.int i, .int j] ∧ Q (.int (if j < i then j else i)) H) [.int a, .int b] (.int (if b < a then b else a)) := fun F H vs e rv Q q => by
  cases rv with
  | cons r rn =>
    cases rn with
    | cons r2 rn =>
      cases rn
      cases r
      cases r2
      exact ⟨a, b, rfl, q _ F H (Gr.refl e) (.int _)⟩
theorem rc_abs {a : Int} : RC (fun xs H Q => ∃ i, xs = [.int i] ∧ Q (.int (if i < 0 then -i else i)) H) [.int a] (.int (if a < 0 then -a else a)) := fun F H vs e rv Q q => by
  cases rv with
  | cons r rn =>
    cases rn
    cases r
    exact ⟨a, rfl, q _ F H (Gr.refl e) (.int _)⟩
theorem rc_intI {a : Int} : RC (fun xs H Q => (∃ i, xs = [.int i] ∧ Q (.int i) H) ∨ ∃ k, xs = [.bl k] ∧ Q (.int (if k then 1 else 0)) H) [.int a] (.int a) := fun F H vs e rv Q q => by
  cases rv with
  | cons r rn =>
    cases rn
    cases r
    exact .inl ⟨a, rfl, q _ F H (Gr.refl e) (.int _)⟩
theorem rc_intB {a : Bool} : RC (fun xs H Q => (∃ i, xs = [.int i] ∧ Q (.int i) H) ∨ ∃ k, xs = [.bl k] ∧ Q (.int (if k then 1 else 0)) H) [.bl a] (.int (if a then 1 else 0)) := fun F H vs e rv Q q => by
  cases rv with
  | cons r rn =>
    cases rn
    cases r
    exact .inr ⟨a, rfl, q _ F H (Gr.refl e) (.int _)⟩

/-! ### what is walked -/
theorem ei_list (h : Ev te env (.lst ds)) : EvI (iList K te) env ds := fun B N F H σ R Q q => h B N F H σ R _ fun v F1 H1 g1 r1 => by
  cases r1 with
  | @lst a vs _ e r =>
    refine ⟨a, rfl, ⟨vs, .inl (.inl (g1.fh _ _ e))⟩, q _ F1 H1 g1 fun i F2 H2 _ e2 f2 => ?_⟩
    have hq : SqL K H2 a vs := .inl (.inl (f2 _ _ (e2 _ _ e)))
    refine ⟨fun d hd => ?_, fun hl => ⟨vs, hq, by rw [r.length]; exact hl⟩⟩
    obtain ⟨u, hu, ru⟩ := r.get hd
    refine ⟨⟨vs, u, hq, hu⟩, fun x H3 ⟨eh, hx⟩ => ?_⟩
    subst eh
    have ex := hx vs hq
    rw [hu] at ex
    cases ex
    exact ⟨F2, Gr.refl f2, ru.mono e2⟩
theorem ei_tup (h : Ev te env (.tup ds)) : EvI (iTup K te) env ds := fun B N F H σ R Q q => h B N F H σ R _ fun v F1 H1 g1 r1 => by
  cases r1 with
  | @tup a vs _ e r =>
    refine ⟨a, rfl, ⟨vs, .inl (.inl (g1.fh _ _ e))⟩, q _ F1 H1 g1 fun i F2 H2 _ e2 f2 => ?_⟩
    have hq : SqT K H2 a vs := .inl (.inl (f2 _ _ (e2 _ _ e)))
    refine ⟨fun d hd => ?_, fun hl => ⟨vs, hq, by rw [r.length]; exact hl⟩⟩
    obtain ⟨u, hu, ru⟩ := r.get hd
    refine ⟨⟨vs, u, hq, hu⟩, fun x H3 ⟨eh, hx⟩ => ?_⟩
    subst eh
    have ex := hx vs hq
    rw [hu] at ex
    cases ex
    exact ⟨F2, Gr.refl f2, ru.mono e2⟩
theorem rgD_get {a b : Int} {i : Nat} {d : D} (h : (rgD a b)[i]? = some d) : i < (b - a).toNat ∧ d = .int (a + i) := by
  unfold rgD at h
  rw [List.getElem?_map] at h
  cases e : (List.range (b - a).toNat)[i]? with
  | none => rw [e] at h; cases h
  | some j =>
    rw [e] at h
    have hi := (List.getElem?_eq_some_iff.mp e)
    obtain ⟨hi, hj⟩ := hi
    rw [List.getElem_range] at hj
    subst hj
    cases h
    exact ⟨by simpa using hi, rfl⟩
theorem rgD_len (a b : Int) : (rgD a b).length = (b - a).toNat := by simp [rgD]
theorem ei_rng1 {ta : TA} {n : Int} (h : EvA ta env [.int n]) (h1 : -(2 ^ 62) ≤ n) (h2 : n < 2 ^ 62) : EvI (iRng1 ta) env (rgD 0 n) := fun B N F H σ R Q q => h B N F H σ R _ fun vs F1 H1 g1 r1 => by
  cases r1 with
  | cons r rn =>
    cases rn
    cases r
    refine ⟨n, rfl, h1, h2, q _ F1 H1 g1 fun i F2 H2 _ e2 f2 => ⟨fun d hd => ?_, fun hl => ?_⟩⟩
    · obtain ⟨hi, rfl⟩ := rgD_get hd
      refine ⟨(show i < n.toNat by simpa using hi), fun x H3 ⟨eh, hx⟩ => ?_⟩
      subst eh hx
      exact ⟨F2, Gr.refl f2, .int _⟩
    · rw [rgD_len] at hl
      exact (show n.toNat ≤ i by simpa using hl)
theorem ei_rng2 {ta : TA} {m n : Int} (h : EvA ta env [.int m, .int n]) (h1 : -(2 ^ 62) ≤ m ∧ m < 2 ^ 62 ∧ -(2 ^ 62) ≤ n ∧ n < 2 ^ 62) : EvI (iRng2 ta) env (rgD m n) := fun B N F H σ R Q q => h B N F H σ R _ fun vs F1 H1 g1 r1 => by
  cases r1 with
  | cons r rn =>
    cases rn with
    | cons r' rn =>
      cases rn
      cases r
      cases r'
      refine ⟨m, n, rfl, h1, q _ F1 H1 g1 fun i F2 H2 _ e2 f2 => ⟨fun d hd => ?_, fun hl => ?_⟩⟩
      · obtain ⟨hi, rfl⟩ := rgD_get hd
        refine ⟨hi, fun x H3 ⟨eh, hx⟩ => ?_⟩
        subst eh hx
        exact ⟨F2, Gr.refl f2, .int _⟩
      · rw [rgD_len] at hl
        exact hl
theorem zip_get {α β : Type} {xs : List α} {ys : List β} {f : α → β → D} {i : Nat} {d : D} (h : (List.zipWith f xs ys)[i]? = some d) : ∃ x y, xs[i]? = some x ∧ ys[i]? = some y ∧ d = f x y := by
  rw [List.getElem?_zipWith] at h
  cases e1 : xs[i]? with
  | none => simp [e1] at h
  | some a =>
    cases e2 : ys[i]? with
    | none => simp [e1, e2] at h
    | some b => simp [e1, e2] at h; exact ⟨a, b, rfl, rfl, h.symm⟩
theorem ei_zipT {ta : TA} (h : EvA ta env [.tup ds, .tup es]) : EvI (RZ.iZipA K ta) env (List.zipWith (fun x y => D.tup [x, y]) ds es) := fun B N F H σ R Q q => h B N F H σ R _ fun vs F1 H1 g1 r1 => by
  cases r1 with
  | cons ra rn =>
    cases rn with
    | cons rb rn =>
      cases rn
      cases ra with
      | @tup a vs _ ea r =>
        cases rb with
        | @tup b ws _ eb s =>
          refine ⟨a, b, vs, ws, rfl, .inr ⟨.inl (.inl (g1.fh _ _ ea)), .inl (.inl (g1.fh _ _ eb)), q _ F1 H1 g1 fun i F2 H2 _ e2 f2 => ?_⟩⟩
          have ha : SqT K H2 a vs := .inl (.inl (f2 _ _ (e2 _ _ ea)))
          have hb : SqT K H2 b ws := .inl (.inl (f2 _ _ (e2 _ _ eb)))
          refine ⟨fun d hd => ?_, fun hl => ⟨vs, ws, ha, hb, ?_⟩⟩
          · obtain ⟨x, y, hx, hy, rfl⟩ := zip_get hd
            obtain ⟨u, hu, ru⟩ := r.get hx
            obtain ⟨w, hw, rw⟩ := s.get hy
            refine ⟨⟨vs, ws, u, w, ha, hb, hu, hw⟩, fun z H3 ⟨T, u', w', ez, hT, eh, k1, k2⟩ => ?_⟩
            subst ez eh
            have q1 := k1 vs ha
            have q2 := k2 ws hb
            rw [hu] at q1
            rw [hw] at q2
            cases q1
            cases q2
            refine ⟨_, Gr.new f2 hT, .tup upd_same (.cons (ru.mono (e2.trans (Ex.new (Evl.fresh_back f2 hT)))) (.cons (rw.mono (e2.trans (Ex.new (Evl.fresh_back f2 hT)))) .nil))⟩
          · rw [List.length_zipWith] at hl
            rw [r.length, s.length]
            omega
theorem ei_zipL {ta : TA} (h : EvA ta env [.lst ds, .lst es]) : EvI (iZip K ta) env (List.zipWith (fun x y => D.tup [x, y]) ds es) := fun B N F H σ R Q q => h B N F H σ R _ fun vs F1 H1 g1 r1 => by
  cases r1 with
  | cons ra rn =>
    cases rn with
    | cons rb rn =>
      cases rn
      cases ra with
      | @lst a vs _ ea r =>
        cases rb with
        | @lst b ws _ eb s =>
          refine ⟨a, b, vs, ws, rfl, .inl (.inl (g1.fh _ _ ea)), .inl (.inl (g1.fh _ _ eb)), q _ F1 H1 g1 fun i F2 H2 _ e2 f2 => ?_⟩
          have ha : SqL K H2 a vs := .inl (.inl (f2 _ _ (e2 _ _ ea)))
          have hb : SqL K H2 b ws := .inl (.inl (f2 _ _ (e2 _ _ eb)))
          refine ⟨fun d hd => ?_, fun hl => ⟨vs, ws, ha, hb, ?_⟩⟩
          · obtain ⟨x, y, hx, hy, rfl⟩ := zip_get hd
            obtain ⟨u, hu, ru⟩ := r.get hx
            obtain ⟨w, hw, rw⟩ := s.get hy
            refine ⟨⟨vs, ws, u, w, ha, hb, hu, hw⟩, fun z H3 ⟨T, u', w', ez, hT, eh, k1, k2⟩ => ?_⟩
            subst ez eh
            have q1 := k1 vs ha
            have q2 := k2 ws hb
            rw [hu] at q1
            rw [hw] at q2
            cases q1
            cases q2
            refine ⟨_, Gr.new f2 hT, .tup upd_same (.cons (ru.mono (e2.trans (Ex.new (Evl.fresh_back f2 hT)))) (.cons (rw.mono (e2.trans (Ex.new (Evl.fresh_back f2 hT)))) .nil))⟩
          · rw [List.length_zipWith] at hl
            rw [r.length, s.length]
            omega
theorem ei_enum {ta : TA} (h : EvA ta env [.lst ds]) : EvI (iEnum K ta) env (ds.mapIdx fun i x => D.tup [.int (i : Nat), x]) := fun B N F H σ R Q q => h B N F H σ R _ fun vs F1 H1 g1 r1 => by
  cases r1 with
  | cons ra rn =>
    cases rn
    cases ra with
    | @lst a vs _ ea r =>
      refine ⟨a, vs, rfl, .inl (.inl (g1.fh _ _ ea)), q _ F1 H1 g1 fun i F2 H2 _ e2 f2 => ?_⟩
      have ha : SqL K H2 a vs := .inl (.inl (f2 _ _ (e2 _ _ ea)))
      refine ⟨fun d hd => ?_, fun hl => ⟨vs, ha, ?_⟩⟩
      · rw [List.getElem?_mapIdx] at hd
        cases e : ds[i]? with
        | none => rw [e] at hd; cases hd
        | some x =>
          rw [e] at hd
          cases hd
          obtain ⟨u, hu, ru⟩ := r.get e
          refine ⟨⟨vs, u, ha, hu⟩, fun z H3 ⟨T, u', ez, hT, eh, k1⟩ => ?_⟩
          subst ez eh
          have q1 := k1 vs ha
          rw [hu] at q1
          cases q1
          exact ⟨_, Gr.new f2 hT, .tup upd_same (.cons (.int _) (.cons (ru.mono (e2.trans (Ex.new (Evl.fresh_back f2 hT)))) .nil))⟩
      · rw [List.length_mapIdx] at hl
        rw [r.length]
        exact hl
/-! ### targets -/
def wpGs (g : TGs) (ds : List D) (env env' : Env) (vs : List Nat) : Prop := ∀ B N F H σ us, Rel B N F H σ env → RpA F us ds → ∀ Q : St → Hp → Prop,
  (∀ σ', Rel B N F H σ' env' → σ'.length = σ.length → (∀ i, i ∉ vs → σ'[i]? = σ[i]?) → Q σ' H) → g us σ H Q
theorem wpgs_nil {vs : List Nat} : wpGs gNil [] env env vs := fun B N F H σ us R r Q q => by
  cases r
  exact ⟨rfl, q σ R rfl fun _ _ => rfl⟩
theorem wpgs_cons {g : TG} {gs : TGs} {env1 env2 : Env} {vs : List Nat} (h : wpG g d env env1 vs) (hs : wpGs gs ds env1 env2 vs) : wpGs (gCons g gs) (d :: ds) env env2 vs := fun B N F H σ us R r Q q => by
  cases r with
  | cons r rs =>
    refine ⟨_, _, rfl, h B N F H σ _ R r _ fun σ1 R1 l1 o1 => hs B N F H σ1 _ R1 rs _ fun σ2 R2 l2 o2 => q σ2 R2 (l2.trans l1) fun i hi => (o2 i hi).trans (o1 i hi)⟩
theorem wpg_tup {gs : TGs} {env1 : Env} {n : Nat} {vs : List Nat} (h : wpGs gs ds env env1 vs) (hn : ds.length = n) : wpG (gTup K n gs) (.tup ds) env env1 vs := fun B N F H σ v R r Q q => by
  cases r with
  | @tup a us _ e r => exact ⟨a, us, rfl, .inl (.inl (R.fh _ _ e)), by rw [r.length]; exact hn, h B N F H σ us R r Q q⟩
theorem wpgs_name {j : Nat} {vs : List Nat} {gs : TGs} {env2 : Env} (h : j ∈ vs) (hs : wpGs gs ds (env.set j (.fz d)) env2 vs) : wpGs (gCons (gName j) gs) (d :: ds) env env2 vs := wpgs_cons (wpg_name h) hs
/-- a, b = e -/
theorem wps_asgG {g : TG} {env1 : Env} {vs : List Nat} {D' : DE} (h : Ev te env d) (hg : wpG g d env env1 vs) (k : D'.nx env1) : wpS (tAsg te g) env D' := fun B N F H σ R De l =>
  h B N F H σ R _ fun v F1 H1 g1 r1 => hg B N F1 H1 σ v (R.grow g1) r1 _ fun σ' R' _ _ => l.nx F1 H1 σ' env1 g1.ff R' k

/-! ### comprehensions -/
theorem wipe_get {σ : St} {i : Nat} : ∀ {vs : List Nat}, i ∉ vs → (L2.wipe σ vs)[i]? = σ[i]? := fun {vs} h => wipe_out h
theorem wipe_mem {σ : St} {i : Nat} : ∀ {vs : List Nat}, i ∈ vs → (L2.wipe σ vs)[i]? = if i < σ.length then some none else none
  | v :: vs, h => by
    unfold L2.wipe
    by_cases c : v = i
    · subst c
      by_cases hl : v < (L2.wipe σ vs).length
      · rw [List.getElem?_set_self hl, if_pos (by rwa [wipe_length] at hl)]
      · rw [List.getElem?_eq_none (by simpa using hl), if_neg (by rwa [wipe_length] at hl)]
    · rw [List.getElem?_set_ne c]
      exact wipe_mem ((List.mem_cons.mp h).resolve_left fun z => c z.symm)
theorem wipe_same {σ σ' : St} {vs : List Nat} (hl : σ'.length = σ.length) (h : ∀ i, i ∉ vs → σ'[i]? = σ[i]?) : L2.wipe σ' vs = L2.wipe σ vs := by
  refine List.ext_getElem? fun i => ?_
  by_cases c : i ∈ vs
  · rw [wipe_mem c, wipe_mem c, hl]
  · rw [wipe_get c, wipe_get c]
    exact h i c
theorem wipe_wipe {σ σ' : St} {vs : List Nat} (hl : σ'.length = σ.length) (h : ∀ i, i ∉ vs → σ'[i]? = (L2.wipe σ vs)[i]?) : L2.wipe σ' vs = L2.wipe σ vs :=
  wipe_same hl fun i hi => (h i hi).trans (wipe_get hi)
/-- [elt for target in iter if test] -/
theorem evN_lcf {α : Type} {wi : TI} {g : TG} {tt : TT} {vs : List Nat} {xs : List α} {e : α → D} (f : α → Bool) (z : α → D) (hi : EvI wi env (xs.map e)) (hn : xs.length ≤ 100000)
    (turn : ∀ x ∈ xs, ∃ env2, wpG g (e x) (wipeD env vs) env2 vs ∧ EvT tt env2 (f x) ∧ (f x = true → Ev te env2 (z x))) : EvN (tLc wi g tt te vs) env (.lst ((xs.filter f).map z)) := fun B N F H σ R Q q =>
  hi B N F H σ R _ fun J F1 H1 g1 hy Dl hD => by
    have R1 := R.grow g1
    have hFl : F1 Dl = none := Evl.fresh_back g1.fh hD
    refine ⟨fun i m H2 => m = xs.length - i ∧ i ≤ xs.length ∧ ∃ F2 acc, Gr F1 H1 F2 H2 ∧ F2 Dl = none ∧ H2 Dl = some (.lst acc) ∧ RpA F2 acc (((xs.take i).filter f).map z),
      ⟨xs.length, by simp, Nat.zero_le _, F1, [], Gr.loose g1.fh hD, hFl, upd_same, .nil⟩, ?_⟩
    rintro i m H2 ⟨rfl, hle, F2, acc, g2, hf2, hd2, ra⟩
    obtain ⟨y1, y2⟩ := hy i F2 H2 (R1.bh.trans g2.hh) g2.ff g2.fh
    by_cases hlt : i < xs.length
    · have hx : xs[i]? = some xs[i] := by simp [hlt]
      obtain ⟨go, yl⟩ := y1 (e xs[i]) (by rw [List.getElem?_map, hx] <;> rfl)
      refine .inr ⟨go, fun H3 => ∃ F3 acc, Gr F1 H1 F3 H3 ∧ F3 Dl = none ∧ H3 Dl = some (.lst acc) ∧ RpA F3 acc (((xs.take (i + 1)).filter f).map z), fun H3 ⟨F3, acc, a1, a2, a3, a4⟩ => ⟨xs.length - (i + 1), by omega, rfl, hlt, F3, acc, a1, a2, a3, a4⟩, fun x H3 yd => ?_⟩
      obtain ⟨F3, g3, r3⟩ := yl x H3 yd
      obtain ⟨env2, wg, wt, we⟩ := turn xs[i] (List.getElem_mem hlt)
      have ext : xs.take (i + 1) = xs.take i ++ [xs[i]] := by rw [List.take_succ, hx] <;> rfl
      -- the new list is not touched: it stands among what is kept
      let B' : Hp := upd B Dl (.lst acc)
      let N' : Addr → Prop := fun a => N a ∧ a ≠ Dl
      have hBl : B Dl = none := Evl.fresh_back R1.bh hD
      have hd3 : H3 Dl = some (.lst acc) := g3.hh _ _ hd2
      have key : ∀ Fx Hx, Gr F2 H2 Fx Hx → Fx Dl = none := fun Fx Hx gx => by
        cases c : Fx Dl with
        | none => rfl
        | some o =>
          have e1 := gx.fh _ _ c
          rw [gx.hh _ _ hd2] at e1
          rcases gx.nw _ _ c with w | w | w
          · rw [hf2] at w; cases w
          · rw [hd2] at w; cases w
          · rw [← Option.some.inj e1] at w; exact w.elim
      have g13 : Gr F1 H1 F3 H3 := g2.trans g3
      have R3 : Rel B' N' F3 H3 σ env := by
        have R3' := R1.grow g13
        refine ⟨R3'.fh, fun a o h => ?_, fun a o h => ?_, fun a h => ?_, R3'.len, fun j s h => ?_, R3'.ds⟩
        · by_cases c : a = Dl
          · subst c
            have h' : some (HO.lst acc) = some o := by rw [← h]; exact upd_same.symm
            rw [← h']; exact hd3
          · rw [show B' a = B a from upd_ne c] at h
            exact R3'.bh a o h
        · by_cases c : a = Dl
          · subst c
            rw [key F3 H3 g3] at h
            cases h
          · rcases R3'.fn a o h with w | w
            · exact .inl ⟨w, c⟩
            · exact .inr w
        · refine ⟨R3'.bn a h, fun c => ?_⟩
          subst c
          rw [hd3] at h
          cases h
        · have hs := R3'.sl j s h
          cases s with
          | no => trivial
          | fz d => exact hs
          | lk p d =>
            obtain ⟨e1, od, u, e2, e3⟩ := hs
            have hp : p ≠ Dl := by
              rintro rfl
              rw [hBl] at e2
              cases e2
            exact ⟨e1, od, u, (show upd B Dl _ p = _ by rw [upd_ne hp]; exact e2), e3⟩
          | ow z d =>
            obtain ⟨p, e1, e2, e3, e4, e5⟩ := hs
            have hp : p ≠ Dl := by
              rintro rfl
              obtain ⟨p', e1', _, _, o4, _⟩ := R1.own h
              rw [e1'] at e1
              cases e1
              obtain ⟨w, hw, _⟩ := o4.there
              rw [hD] at hw
              cases hw
            refine ⟨p, e1, (show upd B Dl _ p = none by rw [upd_ne hp]; exact e2), e3, e4, ?_⟩
            cases z with
            | none => exact ⟨e5, hp⟩
            | some y => exact e5
      refine wg B' N' F3 H3 (L2.wipe σ vs) x (R3.wipe vs) r3 _ fun σ3 R4 hl4 ho4 => ⟨wipe_wipe (by rw [hl4, wipe_length]) ho4, ?_⟩
      refine wt B' N' F3 H3 σ3 R4 _ fun F4 H4 g4 => ?_
      have keep : ∀ Fx Hx, Gr F3 H3 Fx Hx → Fx Dl = none ∧ Hx Dl = some (.lst acc) := fun Fx Hx gx => ⟨key Fx Hx (g3.trans gx), gx.hh _ _ hd3⟩
      cases hfx : f xs[i] with
      | true =>
        rw [if_pos rfl]
        refine we hfx B' N' F4 H4 σ3 (R4.grow g4) _ fun y F5 H5 g5 r5 => ?_
        have g35 := g4.trans g5
        obtain ⟨hn5, hd5⟩ := keep F5 H5 g35
        have hacc : acc.length ≤ xs.length := by
          rw [ra.length, List.length_map]
          refine Nat.le_trans (List.length_filter_le _ _) ?_
          rw [List.length_take]
          omega
        refine ⟨acc, hd5, Nat.lt_of_le_of_lt hacc (Nat.lt_of_le_of_lt hn (by decide)), F5, acc ++ [y], ?_, hn5, upd_same, ?_⟩
        · have gg := g13.trans g35
          refine ⟨gg.ff, fun a o h => ?_, fun a o h => ?_, gg.nw⟩
          · have c : a ≠ Dl := by
              rintro rfl
              rw [hn5] at h
              cases h
            rw [upd_ne c]
            exact gg.fh a o h
          · have c : a ≠ Dl := by
              rintro rfl
              rw [hD] at h
              cases h
            rw [upd_ne c]
            exact gg.hh a o h
        · rw [ext, List.filter_append, List.filter_cons, if_pos hfx, List.map_append]
          exact (ra.mono (g3.trans g35).ff).append (.cons r5 .nil)
      | false =>
        rw [if_neg Bool.false_ne_true]
        obtain ⟨hn4, hd4⟩ := keep F4 H4 g4
        refine ⟨F4, acc, g13.trans g4, hn4, hd4, ?_⟩
        rw [ext, List.filter_append, List.filter_cons, if_neg (by rw [hfx]; exact Bool.false_ne_true), List.filter_nil, List.append_nil]
        exact ra.mono (g3.trans g4).ff
    · have e' : i = xs.length := by omega
      subst e'
      rw [List.take_length] at ra
      exact .inl ⟨y2 (by rw [List.length_map]; exact Nat.le_refl _), q Dl F2 H2 (g1.trans g2) (gr_none g1 hD) hf2 ⟨acc, hd2, ra⟩⟩
theorem evN_lc {α : Type} {wi : TI} {g : TG} {vs : List Nat} {xs : List α} {e : α → D} (z : α → D) (hi : EvI wi env (xs.map e)) (hn : xs.length ≤ 100000)
    (turn : ∀ x ∈ xs, ∃ env2, wpG g (e x) (wipeD env vs) env2 vs ∧ Ev te env2 (z x)) : EvN (tLc wi g tYes te vs) env (.lst (xs.map z)) := by
  have h := evN_lcf (te := te) (fun _ => true) z hi hn fun x hx => by
    obtain ⟨env2, a, b⟩ := turn x hx
    exact ⟨env2, a, et_yes, fun _ => b⟩
  rwa [List.filter_eq_self.mpr (fun _ _ => rfl)] at h
/-- the same, by kinds of data -/
theorem evN_lcE {α β : Type} {wi : TI} {g : TG} {vs : List Nat} {xs : List α} {e : α → D} (e' : β → D) (z : α → β) (hi : EvI wi env (xs.map e)) (hn : xs.length ≤ 100000)
    (turn : ∀ x ∈ xs, ∃ env2, wpG g (e x) (wipeD env vs) env2 vs ∧ Ev te env2 (e' (z x))) : EvN (tLc wi g tYes te vs) env (.lst ((xs.map z).map e')) := by
  rw [List.map_map]
  exact evN_lc (fun x => e' (z x)) hi hn turn
theorem evN_lcfE {α β : Type} {wi : TI} {g : TG} {tt : TT} {vs : List Nat} {xs : List α} {e : α → D} (e' : β → D) (f : α → Bool) (z : α → β) (hi : EvI wi env (xs.map e)) (hn : xs.length ≤ 100000)
    (turn : ∀ x ∈ xs, ∃ env2, wpG g (e x) (wipeD env vs) env2 vs ∧ EvT tt env2 (f x) ∧ (f x = true → Ev te env2 (e' (z x)))) : EvN (tLc wi g tt te vs) env (.lst (((xs.filter f).map z).map e')) := by
  rw [List.map_map]
  exact evN_lcf f (fun x => e' (z x)) hi hn turn
/-! walks by kinds -/
theorem rgD_map (a b : Int) : rgD a b = (List.range (b - a).toNat).map fun (i : Nat) => D.int (a + (i : Int)) := rfl
theorem ei_rngN {ta : TA} {n : Nat} (h : EvA ta env [.int (n : Int)]) (h2 : n ≤ 100000) : EvI (iRng1 ta) env ((List.range n).map fun (i : Nat) => D.int (i : Int)) := by
  have e := ei_rng1 h (by omega) (by omega)
  have q : rgD 0 (n : Int) = (List.range n).map fun (i : Nat) => D.int (i : Int) := by
    unfold rgD
    rw [show ((n : Int) - 0).toNat = n by omega]
    exact List.map_congr_left fun i _ => by rw [Int.zero_add]
  rwa [q] at e
theorem ei_zipE {α β : Type} {ta : TA} {e : α → D} {f : β → D} {xs : List α} {ys : List β} (h : EvA ta env [.tup (xs.map e), .tup (ys.map f)]) : EvI (RZ.iZipA K ta) env ((xs.zip ys).map fun p => D.tup [e p.1, f p.2]) := by
  have q := ei_zipT (K := K) h
  rw [List.zipWith_map] at q
  have : List.zipWith (fun a b => D.tup [e a, f b]) xs ys = (xs.zip ys).map fun p => D.tup [e p.1, f p.2] := by
    rw [List.zip, List.map_zipWith]
  rwa [this] at q
end
end DL

/-! DL4: calls of own defs by name; own lists and dicts; borrowing. -/
namespace DL
open PySem L2
open Evl (Ex)
/-- a def that stands behind the top under its name, and what it promises -/
structure Cal (P : Program) (w : World) (K : PySem.W.Frag) (mg : Str → Option Value) (base : Heap) (k : Nat) (x : Str) (ps : List Str) (sp : Sp) : Prop where
  ex : ∃ f fd, FnOk P w K mg base CX0 k f fd ps sp ∧ mg x = some (.ref f) ∧ PySem.W.keepIn K (.ref f) = true ∧ Binds K fd ps []
theorem pe_cal {X : Cx} {k : Nat} {x : Str} {ps : List Str} {sp : Sp} {p pos : Pos} {e : Expr} {es : List Expr} {t : TA} (C : Cal X.prog X.w X.K X.mg X.base k x ps sp) (hr : Room k X.A) (hg : Gl X x) (ha : PA X (e :: es) t)
    (hdb : (x == ("__debug__" : Str)) = false := by decide) (he : starEach (e :: es) X.env = (false, eval e X.env) :: starEach es X.env := by rfl) (hpl : (backTo pos (starEach es X.env)).any (·.1) = false := by rfl) :
    PE X (.Call (.Name x p) (e :: es) [] pos) (tCall sp [] E0 t) := by
  obtain ⟨f, fd, F, hm, kp, b⟩ := C.ex
  exact pe_call F hr hg hm kp b .nil pass0 ha hdb he hpl
/-- the built-in names that the text does not bind -/
structure Bl (mg : Str → Option Value) : Prop where
  m_len : mg "len" = none
  m_range : mg "range" = none
  m_sum : mg "sum" = none
  m_any : mg "any" = none
  m_all : mg "all" = none
  m_tuple : mg "tuple" = none
  m_list : mg "list" = none
  m_int : mg "int" = none
  m_abs : mg "abs" = none
  m_max : mg "max" = none
  m_min : mg "min" = none
  m_sorted : mg "sorted" = none
  m_zip : mg "zip" = none
  m_enumerate : mg "enumerate" = none
  m_isinstance : mg "isinstance" = none
  m_str : mg "str" = none
  m_dict : mg "dict" = none
  m_bool : mg "bool" = none
theorem hu64_of {A : Around} {k : Nat} (hr : Room k A) : A.units + 64 < cLine := Nat.lt_of_le_of_lt (Nat.add_le_add_left (by decide : 64 ≤ 64) _) hr.units

/-- the slots at the entry -/
def init (N : List Str) (ds : List D) : Env := ds.map Sl.fz ++ List.replicate (N.length - ds.length) Sl.no
/-- what is wanted of a body: that it hands back k's data -/
def retOf (k : D → Prop) : DE := { nx := fun _ => k .non, rt := fun d _ => k d }
/-- a def keeps its promise over data -/
theorem fn_ok {P : Program} {w : World} {K : PySem.W.Frag} {mg : Str → Option Value} {base : Heap} {x qual : Str} {st : Stmt} {f : Addr} {fd : FuncData} {N ps : List Str} {k : Nat} {S : List D → (D → Prop) → Prop} (F : Fun K x qual st f fd) (sc : FnScope N ps (defScope st))
    (hl : ∀ ds k, S ds k → ds.length = ps.length) (hps : ps.length ≤ N.length)
    (hb : ∀ (cdv : Value) (A : Around) (outer : List PySem.Env) (s : Shared) (H : Hp) (E : XK), Room k (A.deeper (PyProof.Rows.envOfC qual (defScope st) s.heap.objs.size f cdv)) →
      ∃ t, PSs (cxOf CX0 P w K mg base N qual (defScope st) f cdv A outer s H E).nox (defBody st) t ∧ ∀ ds kk, S ds kk → wpS t (init N ds) (retOf kk)) : FnOk P w K mg base CX0 (k + 1) f fd ps (spR S) := by
  refine F.ok sc (fun vs H Q E h => ?_) (fun cdv A outer s H vs Q E hr h => ?_)
  · obtain ⟨F, ds, _, r, hs⟩ := h
    rw [r.length]
    exact hl ds _ hs
  · obtain ⟨t, ht, hw⟩ := hb cdv A outer s H E hr
    exact ⟨t, ht, body_of (ps := ps) hps h hl hw⟩
theorem Cal.mk' {P : Program} {w : World} {K : PySem.W.Frag} {mg : Str → Option Value} {base : Heap} {k : Nat} {x : Str} {ps : List Str} {sp : Sp} {f : Addr} {fd : FuncData} (h : FnOk P w K mg base CX0 k f fd ps sp) (hm : mg x = some (.ref f)) (hk : PySem.W.keepIn K (.ref f) = true) (hb : Binds K fd ps []) : Cal P w K mg base k x ps sp := ⟨f, fd, h, hm, hk, hb⟩
end DL

/-! DL5: own lists and dicts changed; borrowing; expressions that change own objects (wpE). -/
namespace DL
open PySem L2
open Evl (Ex)
section
variable {K : PySem.W.Frag} {env : Env} {te ta tb ti : TE} {d x y : D} {ds es : List D} {D' : DE}
/-- an own object is changed -/
theorem Rel.mut {B : Hp} {N : Addr → Prop} {F H : Hp} {σ : St} (R : Rel B N F H σ env) {i : Nat} {q : Option Addr} {d' : D} {p : Addr} {o : HO} (h : env[i]? = some (.ow q d)) (hp : σ[i]?.join = some (.ref p)) (new : OwnAt F (upd H p o) p d') :
    Rel B N F (upd H p o) σ (env.set i (.ow q d')) := by
  obtain ⟨p', e, h1, h2, h3, h4⟩ := R.own h
  rw [hp] at e
  cases e
  have hi : i < env.length := (List.getElem?_eq_some_iff.mp h).1
  obtain ⟨u, hu, nt⟩ := h3.there
  refine ⟨fun a z e => ?_, fun a z e => ?_, R.fn, fun a e => ?_, by rw [List.length_set, R.len], fun j s e => ?_, fun j k q1 q2 d1 d2 p' e1 e2 f1 f2 => ?_⟩
  · rw [upd_ne (fun c => by subst c; rw [h2] at e; cases e)]
    exact R.fh a z e
  · rw [upd_ne (fun c => by subst c; rw [h1] at e; cases e)]
    exact R.bh a z e
  · refine R.bn a ?_
    by_cases c : a = p
    · subst c
      rw [upd_same] at e
      cases e
    · rwa [upd_ne c] at e
  · by_cases c : i = j
    · subst c
      rw [List.getElem?_set_self hi] at e
      cases e
      exact ⟨p, hp, h1, h2, new, h4⟩
    · rw [List.getElem?_set_ne c] at e
      have w := R.sl j s e
      cases s with
      | no => trivial
      | fz z => exact w
      | lk p' z => exact w
      | ow z x =>
        obtain ⟨p', w1, w2, w3, w4, w5⟩ := w
        have np : p' ≠ p := by
          rintro rfl
          exact c (R.ds i j _ _ _ _ p' h e hp w1)
        exact ⟨p', w1, w2, w3, w4.mono (Ex.refl _) fun o z => by rw [upd_ne np]; exact z, w5⟩
  · have g : ∀ (j : Nat) (q1 : Option Addr) (d1 : D), (env.set i (.ow q d'))[j]? = some (.ow q1 d1) → ∃ q2 d2, env[j]? = some (.ow q2 d2) := fun j q1 d1 e => by
      by_cases c : i = j
      · subst c
        exact ⟨q, d, h⟩
      · rw [List.getElem?_set_ne c] at e
        exact ⟨q1, d1, e⟩
    obtain ⟨a1, b1, c1⟩ := g j q1 d1 e1
    obtain ⟨a2, b2, c2⟩ := g k q2 d2 e2
    exact R.ds j k a1 a2 b1 b2 p' c1 c2 f1 f2
theorem slot_of {σ : St} {i : Nat} {v : V} (h : σ[i]?.join = some v) : σ[i]? = some (some v) := join_some h
/-- xs.append(e), xs an own list in slot i -/
theorem wps_app {i : Nat} {q : Option Addr} (hi : env[i]? = some (.ow q (.lst ds))) (h : Ev te env d) (hn : ds.length < 100000) (k : D'.nx (env.set i (.ow q (.lst (ds ++ [d]))))) : wpS (tDrop (tBM K "list" rAppend (tVar i) (tCons te tNil))) env D' := fun B N F H σ R De l => by
  obtain ⟨p, hp, _, _, ⟨vs, hv, r⟩, _⟩ := R.own hi
  refine ⟨_, slot_of hp, .inl ⟨rfl, vs, .inl (.inl hv)⟩, h B N F H σ R _ fun v F1 H1 g1 r1 => ?_⟩
  have R1 := R.grow g1
  have hv1 := g1.hh _ _ hv
  refine ⟨p, vs, v, rfl, rfl, hv1, Evl.sz_lt (by rw [r.length]; exact hn), ?_⟩
  exact l.nx F1 _ σ _ g1.ff (R1.mut (d' := .lst (ds ++ [d])) hi hp ⟨_, upd_same, (r.mono g1.ff).append (.cons r1 .nil)⟩) k
/-- xs.extend(ys) -/
theorem wps_ext {i : Nat} {q : Option Addr} (hi : env[i]? = some (.ow q (.lst ds))) (h : Ev te env (.lst es)) (hn : ds.length + es.length < 100000) (k : D'.nx (env.set i (.ow q (.lst (ds ++ es))))) : wpS (tDrop (tBM K "list" rExtend (tVar i) (tCons te tNil))) env D' := fun B N F H σ R De l => by
  obtain ⟨p, hp, _, _, ⟨vs, hv, r⟩, _⟩ := R.own hi
  refine ⟨_, slot_of hp, .inl ⟨rfl, vs, .inl (.inl hv)⟩, h B N F H σ R _ fun v F1 H1 g1 r1 => ?_⟩
  have R1 := R.grow g1
  have hv1 := g1.hh _ _ hv
  cases r1 with
  | @lst b ws _ eb s =>
    refine ⟨p, b, vs, ws, rfl, rfl, hv1, g1.fh _ _ eb, Evl.sz_of (by rw [r.length, s.length]; omega), ?_⟩
    exact l.nx F1 _ σ _ g1.ff (R1.mut (d' := .lst (ds ++ es)) hi hp ⟨_, upd_same, (r.mono g1.ff).append s⟩) k
/-- xs[j] = e -/
theorem wps_setL {i : Nat} {j : Nat} {q : Option Addr} (hi : env[i]? = some (.ow q (.lst ds))) (h : Ev te env d) (hj : Ev ti env (.int (j : Int))) (hn : j < ds.length) (k : D'.nx (env.set i (.ow q (.lst (ds.set j d))))) : wpS (tAsg te (gSub (tVar i) ti rSetL)) env D' := fun B N F H σ R De l => by
  obtain ⟨p, hp, _, _, ⟨vs, hv, r⟩, _⟩ := R.own hi
  refine h B N F H σ R _ fun v F1 H1 g1 r1 => ⟨_, slot_of hp, hj B N F1 H1 σ (R.grow g1) _ fun w F2 H2 g2 r2 => ?_⟩
  cases r2
  have gg := g1.trans g2
  refine ⟨p, vs, (j : Int), j, rfl, rfl, gg.hh _ _ hv, Evl.ixN_nat (by rw [r.length]; exact hn), ?_⟩
  exact l.nx F2 _ σ _ gg.ff ((R.grow gg).mut (d' := .lst (ds.set j d)) hi hp ⟨_, upd_same, (r.mono gg.ff).set (r1.mono g2.ff) j⟩) k
/-! dicts -/
def kD : Key → D
  | .inl i => .int i
  | .inr x => .str x
theorem kD_rp {F : Hp} (k : Key) : Rp F (kV k) (kD k) := by
  cases k with
  | inl i => exact .int i
  | inr x => exact .str x
theorem kD_eq {F : Hp} {v : V} {k : Key} (r : Rp F v (kD k)) : v = kV k := by
  cases k with
  | inl i => cases r; rfl
  | inr x => cases r; rfl
theorem kDs_eq {F : Hp} : ∀ {ks : List Key} {vs : List V}, RpA F vs (ks.map kD) → vs = ks.map kV
  | [], _, .nil => rfl
  | k :: ks, _, .cons r rs => by rw [kD_eq r, kDs_eq rs] <;> rfl
theorem kDs_rp {F : Hp} : ∀ (ks : List Key), RpA F (ks.map kV) (ks.map kD)
  | [] => .nil
  | k :: ks => .cons (kD_rp k) (kDs_rp ks)
section
variable {κ : Type} [DecidableEq κ]
def valD (kvs : List (κ × D)) (k : κ) : Option D := (kvs.find? fun kv => decide (kv.1 = k)).map (·.2)
def putD (kvs : List (κ × D)) (k : κ) (v : D) : List (κ × D) :=
  if (kvs.any fun kv => decide (kv.1 = k)) = true then kvs.map (fun kv => if kv.1 = k then (kv.1, v) else kv) else kvs ++ [(k, v)]
def KR (F : Hp) : List (κ × V) → List (κ × D) → Prop
  | [], [] => True
  | a :: r, b :: t => a.1 = b.1 ∧ Rp F a.2 b.2 ∧ KR F r t
  | _, _ => False
theorem KR.of {F : Hp} : ∀ {kv : List (κ × V)} {kd : List (κ × D)}, kv.map (·.1) = kd.map (·.1) → RpA F (kv.map (·.2)) (kd.map (·.2)) → KR F kv kd
  | [], [], _, _ => trivial
  | [], b :: t, h, _ => by simp at h
  | a :: r, [], h, _ => by simp at h
  | a :: r, b :: t, h, .cons r1 rs => by
    simp only [List.map_cons, List.cons.injEq] at h
    exact ⟨h.1, r1, KR.of h.2 rs⟩
theorem KR.keys {F : Hp} : ∀ {kv : List (κ × V)} {kd : List (κ × D)}, KR F kv kd → kv.map (·.1) = kd.map (·.1)
  | [], [], _ => rfl
  | [], b :: t, h => h.elim
  | a :: r, [], h => h.elim
  | a :: r, b :: t, ⟨h, _, k⟩ => by rw [List.map_cons, List.map_cons, h, KR.keys k]
theorem KR.vals {F : Hp} : ∀ {kv : List (κ × V)} {kd : List (κ × D)}, KR F kv kd → RpA F (kv.map (·.2)) (kd.map (·.2))
  | [], [], _ => .nil
  | [], b :: t, h => h.elim
  | a :: r, [], h => h.elim
  | a :: r, b :: t, ⟨_, h, k⟩ => .cons h (KR.vals k)
theorem KR.mono {F F' : Hp} (e : Ex F F') : ∀ {kv : List (κ × V)} {kd : List (κ × D)}, KR F kv kd → KR F' kv kd
  | [], [], _ => trivial
  | [], b :: t, h => h.elim
  | a :: r, [], h => h.elim
  | a :: r, b :: t, ⟨h, h2, k⟩ => ⟨h, h2.mono e, KR.mono e k⟩
theorem KR.len {F : Hp} {kv : List (κ × V)} {kd : List (κ × D)} (h : KR F kv kd) : kv.length = kd.length := by
  have := congrArg List.length h.keys
  simpa using this
theorem KR.any {F : Hp} (k : κ) : ∀ {kv : List (κ × V)} {kd : List (κ × D)}, KR F kv kd → (kv.any fun x => decide (x.1 = k)) = kd.any fun x => decide (x.1 = k)
  | [], [], _ => rfl
  | [], b :: t, h => h.elim
  | a :: r, [], h => h.elim
  | a :: r, b :: t, ⟨h, h2, w⟩ => by rw [List.any_cons, List.any_cons, h, KR.any k w]
theorem KR.app {F : Hp} : ∀ {kv kv' : List (κ × V)} {kd kd' : List (κ × D)}, KR F kv kd → KR F kv' kd' → KR F (kv ++ kv') (kd ++ kd')
  | [], _, [], _, _, h => h
  | [], _, b :: t, _, h, _ => h.elim
  | a :: r, _, [], _, h, _ => h.elim
  | a :: r, _, b :: t, _, ⟨h, h2, w⟩, k => ⟨h, h2, KR.app w k⟩
theorem KR.upd {F : Hp} {k : κ} {v : V} {d : D} (r : Rp F v d) : ∀ {kv : List (κ × V)} {kd : List (κ × D)}, KR F kv kd → KR F (kv.map (fun kv => if kv.1 = k then (kv.1, v) else kv)) (kd.map (fun kv => if kv.1 = k then (kv.1, d) else kv))
  | [], [], _ => trivial
  | [], b :: t, h => h.elim
  | a :: r, [], h => h.elim
  | a :: l, b :: t, ⟨h, h2, w⟩ => by
    rw [List.map_cons, List.map_cons]
    refine ⟨?_, ?_, KR.upd r w⟩
    · split <;> split <;> simp_all
    · by_cases c : a.1 = k
      · rw [if_pos c, if_pos (h ▸ c)]
        exact r
      · rw [if_neg c, if_neg (h ▸ c)]
        exact h2
theorem KR.put {F : Hp} {k : κ} {v : V} {d : D} (r : Rp F v d) {kv : List (κ × V)} {kd : List (κ × D)} (h : KR F kv kd) : KR F (putK kv k v) (putD kd k d) := by
  unfold putK putD
  rw [h.any k]
  split
  · exact h.upd r
  · exact h.app ⟨rfl, r, trivial⟩
theorem KR.val {F : Hp} (k : κ) : ∀ {kv : List (κ × V)} {kd : List (κ × D)}, KR F kv kd → (∀ d, valD kd k = some d → ∃ v, valV kv k = some v ∧ Rp F v d) ∧ (valD kd k = none → valV kv k = none)
  | [], [], _ => ⟨fun d h => by simp [valD] at h, fun _ => rfl⟩
  | [], b :: t, h => h.elim
  | a :: r, [], h => h.elim
  | a :: l, b :: t, ⟨h, h2, w⟩ => by
    unfold valD valV
    rw [List.find?_cons, List.find?_cons]
    by_cases c : b.1 = k
    · have c' : a.1 = k := h.trans c
      rw [decide_eq_true c, decide_eq_true c']
      refine ⟨fun d e => ?_, fun e => ?_⟩
      · cases e
        exact ⟨_, rfl, h2⟩
      · cases e
    · have c' : ¬ a.1 = k := fun z => c (h ▸ z)
      rw [decide_eq_false c, decide_eq_false c']
      exact KR.val k w
end
/-- {} -/
theorem evN_dT : EvN tDNewT env (.dT []) := fun B N F H σ R Q q p hp => q p F _ (Gr.loose R.fh hp) hp (Evl.fresh_back R.fh hp) ⟨[], upd_same, rfl, .nil⟩
theorem evN_dK : EvN tDNewK env (.dK []) := fun B N F H σ R Q q p hp => q p F _ (Gr.loose R.fh hp) hp (Evl.fresh_back R.fh hp) ⟨[], upd_same, rfl, .nil⟩
/-- d[k] = e, d an own dict with tuple keys in slot i -/
theorem wps_dputT {ty tv : TE} {i : Nat} {q : Option Addr} {kd : List (List Key × D)} {ks : List Key} (hi : env[i]? = some (.ow q (.dT kd))) (h : Ev tv env d) (hk : Ev ty env (.tup (ks.map kD))) (hn : kd.length < 100000) (k : D'.nx (env.set i (.ow q (.dT (putD kd ks d))))) : wpS (sDPut (tVar i) ty tv) env D' := fun B N F H σ R De l => by
  obtain ⟨p, hp, _, _, ⟨kv, hv, r1, r2⟩, _⟩ := R.own hi
  refine h B N F H σ R _ fun v F1 H1 g1 rv => ⟨_, slot_of hp, hk B N F1 H1 σ (R.grow g1) _ fun w F2 H2 g2 rk => ?_⟩
  have gg := g1.trans g2
  cases rk with
  | @tup b us _ eb s =>
    have e := kDs_eq s
    subst e
    have kr := KR.of r1 r2
    have hv2 := gg.hh _ _ hv
    refine ⟨p, _, rfl, DPut.t hv2 (g2.fh _ _ eb) (Evl.sz_lt (by rw [kr.len]; exact hn)), ?_⟩
    have kr2 := (kr.mono gg.ff).put (k := ks) (rv.mono g2.ff)
    exact l.nx F2 _ σ _ gg.ff ((R.grow gg).mut (d' := .dT (putD kd ks d)) hi hp ⟨_, upd_same, kr2.keys, kr2.vals⟩) k
theorem wps_dputK {ty tv : TE} {i : Nat} {q : Option Addr} {kd : List (Key × D)} {ks : Key} (hi : env[i]? = some (.ow q (.dK kd))) (h : Ev tv env d) (hk : Ev ty env (kD ks)) (hn : kd.length < 100000) (k : D'.nx (env.set i (.ow q (.dK (putD kd ks d))))) : wpS (sDPut (tVar i) ty tv) env D' := fun B N F H σ R De l => by
  obtain ⟨p, hp, _, _, ⟨kv, hv, r1, r2⟩, _⟩ := R.own hi
  refine h B N F H σ R _ fun v F1 H1 g1 rv => ⟨_, slot_of hp, hk B N F1 H1 σ (R.grow g1) _ fun w F2 H2 g2 rk => ?_⟩
  have gg := g1.trans g2
  have e := kD_eq rk
  subst e
  have kr := KR.of r1 r2
  have hv2 := gg.hh _ _ hv
  refine ⟨p, _, rfl, DPut.k hv2 (Evl.sz_lt (by rw [kr.len]; exact hn)), ?_⟩
  have kr2 := (kr.mono gg.ff).put (k := ks) (rv.mono g2.ff)
  exact l.nx F2 _ σ _ gg.ff ((R.grow gg).mut (d' := .dK (putD kd ks d)) hi hp ⟨_, upd_same, kr2.keys, kr2.vals⟩) k

/-! ### own objects that are read: for the time being they count as frozen -/
def frz : Env → Env
  | [] => []
  | .ow _ d :: r => .fz d :: frz r
  | .fz d :: r => .fz d :: frz r
  | .no :: r => .no :: frz r
  | .lk p d :: r => .lk p d :: frz r
theorem frz_get : ∀ {env : Env} {i : Nat}, (frz env)[i]? = (env[i]?).map fun s => match s with | .ow _ d => .fz d | s => s
  | [], i => by simp [frz]
  | .ow q d :: r, 0 => rfl
  | .fz d :: r, 0 => rfl
  | .no :: r, 0 => rfl
  | .lk p d :: r, 0 => rfl
  | .ow q d :: r, i + 1 => by rw [frz, List.getElem?_cons_succ, List.getElem?_cons_succ]; exact frz_get
  | .fz d :: r, i + 1 => by rw [frz, List.getElem?_cons_succ, List.getElem?_cons_succ]; exact frz_get
  | .no :: r, i + 1 => by rw [frz, List.getElem?_cons_succ, List.getElem?_cons_succ]; exact frz_get
  | .lk p d :: r, i + 1 => by rw [frz, List.getElem?_cons_succ, List.getElem?_cons_succ]; exact frz_get
theorem frz_len : ∀ env : Env, (frz env).length = env.length
  | [] => rfl
  | .ow q d :: r => by rw [frz, List.length_cons, List.length_cons, frz_len r]
  | .fz d :: r => by rw [frz, List.length_cons, List.length_cons, frz_len r]
  | .no :: r => by rw [frz, List.length_cons, List.length_cons, frz_len r]
  | .lk p d :: r => by rw [frz, List.length_cons, List.length_cons, frz_len r]
open Classical in
theorem Rel.frz {B : Hp} {N : Addr → Prop} {F H : Hp} {σ : St} (R : Rel B N F H σ env) : ∃ F' N', Ex F F' ∧ Ex F' H ∧ Rel B N' F' H σ (frz env) := by
  let P : Addr → Prop := fun a => ∃ (i : Nat) (q : Option Addr) (d : D), env[i]? = some (.ow q d) ∧ σ[i]?.join = some (.ref a)
  let F' : Hp := fun a => if P a then H a else F a
  have e1 : Ex F F' := fun a o h => by
    show (if P a then H a else F a) = some o
    split
    · exact R.fh a o h
    · exact h
  have e2 : Ex F' H := fun a o h => by
    have h' : (if P a then H a else F a) = some o := h
    split at h'
    · exact h'
    · exact R.fh a o h'
  refine ⟨F', fun _ => True, e1, e2, ⟨e2, R.bh, fun _ _ _ => .inl trivial, fun _ _ => trivial, by rw [frz_len, R.len], fun i s h => ?_, fun i j q q' d d' p h1 => ?_⟩⟩
  · rw [frz_get] at h
    cases c : env[i]? with
    | none => rw [c] at h; cases h
    | some t =>
      rw [c] at h
      have w := R.sl i t c
      cases t with
      | no => cases h; trivial
      | fz d =>
        cases h
        obtain ⟨v, w1, w2⟩ := w
        exact ⟨v, w1, w2.mono e1⟩
      | lk p d => cases h; obtain ⟨a, od, u, b, c⟩ := w; exact ⟨a, od, u, b, c.mono e1⟩
      | ow q d =>
        cases h
        obtain ⟨p, w1, w2, w3, w4, w5⟩ := w
        refine ⟨_, w1, w4.rp e1 fun o ho => ?_⟩
        show (if P p then H p else F p) = some o
        rw [if_pos ⟨i, q, d, c, w1⟩]
        exact ho
  · exfalso
    rw [frz_get] at h1
    cases c : env[i]? with
    | none => rw [c] at h1; cases h1
    | some t =>
      rw [c] at h1
      cases t <;> cases h1
theorem ev_bor (h : Ev te (frz env) d) (hs : d.scal = true) : Ev te env d := fun B N F H σ R Q q => by
  obtain ⟨F', N', e1, e2, R'⟩ := R.frz
  refine h B N' F' H σ R' Q fun v F1 H1 g r => q v F H1 ⟨Ex.refl _, (e1.trans g.ff).trans g.fh, g.hh, fun _ _ h => .inl h⟩ (r.scal hs)
theorem et_bor {tt : TT} {b : Bool} (h : EvT tt (frz env) b) : EvT tt env b := fun B N F H σ R Q q => by
  obtain ⟨F', N', e1, e2, R'⟩ := R.frz
  exact h B N' F' H σ R' Q fun F1 H1 g => q F H1 ⟨Ex.refl _, (e1.trans g.ff).trans g.fh, g.hh, fun _ _ h => .inl h⟩
/-- an item of an own list -/
theorem ev_ixO {i : Nat} {q : Option Addr} {j : Int} (hi : env[i]? = some (.ow q (.lst ds))) (hj : Ev ti env (.int j)) (h : atI ds j = some d) : Ev (tOp (rIxL K) (tVar i) ti) env d := fun B N F H σ R Q qq => by
  obtain ⟨p, hp, _, _, ⟨vs, hv, r⟩, _⟩ := R.own hi
  refine ⟨_, slot_of hp, hj B N F H σ R _ fun w F1 H1 g1 r1 => ?_⟩
  cases r1
  obtain ⟨u, hu, ru⟩ := atI_rp r h
  exact ⟨p, vs, j, u, rfl, rfl, .inl (.inl (g1.hh _ _ hv)), hu, qq u F1 H1 g1 (ru.mono g1.ff)⟩
end

/-! ### expressions that change own objects -/
def wpE (te : TE) (env : Env) (k : D → Env → Prop) : Prop := ∀ B N F H σ, Rel B N F H σ env → ∀ Q : VK, (∀ v d env' F' H', Ex F F' → Rel B N F' H' σ env' → Rp F' v d → k d env' → Q v H') → te σ H Q
def wpA (ta : TA) (env : Env) (k : List D → Env → Prop) : Prop := ∀ B N F H σ, Rel B N F H σ env → ∀ Q : List V → Hp → Prop, (∀ vs ds env' F' H', Ex F F' → Rel B N F' H' σ env' → RpA F' vs ds → k ds env' → Q vs H') → ta σ H Q
section
variable {K : PySem.W.Frag} {env : Env} {te ta tb ti : TE} {d x y : D} {ds es : List D} {D' : DE} {k : D → Env → Prop}
theorem wpe_ev (h : Ev te env d) (hk : k d env) : wpE te env k := fun B N F H σ R Q q => h B N F H σ R Q fun v F' H' g r => q v d env F' H' g.ff (R.grow g) r hk
theorem wpe_op {r : R2} (h : wpE ta env fun x e1 => wpE tb e1 fun y e2 => ∃ z, RO r x y z ∧ k z e2) : wpE (tOp r ta tb) env k := fun B N F H σ R Q q =>
  h B N F H σ R _ fun v x e1 F1 H1 f1 R1 r1 h1 => h1 B N F1 H1 σ R1 _ fun w y e2 F2 H2 f2 R2 r2 ⟨z, hr, hk⟩ => hr F2 H2 v w R2.fh (r1.mono f2) r2 Q fun u F3 H3 g3 r3 =>
    q u z e2 F3 H3 ((f1.trans f2).trans g3.ff) (R2.grow g3) r3 hk
theorem wpa_nil {k : List D → Env → Prop} (h : k [] env) : wpA tNil env k := fun B N F H σ R Q q => q [] [] env F H (Ex.refl _) R .nil h
theorem wpa_cons {tr : TA} {k : List D → Env → Prop} (h : wpE ta env fun x e1 => wpA tr e1 fun xs e2 => k (x :: xs) e2) : wpA (tCons ta tr) env k := fun B N F H σ R Q q =>
  h B N F H σ R _ fun v x e1 F1 H1 f1 R1 r1 h1 => h1 B N F1 H1 σ R1 _ fun vs xs e2 F2 H2 f2 R2 r2 hk => q _ _ e2 F2 H2 (f1.trans f2) R2 (.cons (r1.mono f2) r2) hk
theorem wpa_ev {ta : TA} {k : List D → Env → Prop} (h : EvA ta env ds) (hk : k ds env) : wpA ta env k := fun B N F H σ R Q q => h B N F H σ R Q fun vs F' H' g r => q vs ds env F' H' g.ff (R.grow g) r hk
theorem wpe_cb {r : List V → Hp → VK → Prop} {ta : TA} (h : wpA ta env fun xs e1 => ∃ z, RC r xs z ∧ k z e1) : wpE (tCB r ta) env k := fun B N F H σ R Q q =>
  h B N F H σ R _ fun vs xs e1 F1 H1 f1 R1 r1 ⟨z, hr, hk⟩ => hr F1 H1 vs R1.fh r1 Q fun u F3 H3 g3 r3 => q u z e1 F3 H3 (f1.trans g3.ff) (R1.grow g3) r3 hk
theorem wpe_mono {k' : D → Env → Prop} (h : wpE te env k) (m : ∀ d e, k d e → k' d e) : wpE te env k' := fun B N F H σ R Q q => h B N F H σ R Q fun v d e F' H' a b c z => q v d e F' H' a b c (m d e z)
theorem wps_asgE {i : Nat} (h : wpE te env fun d e => D'.nx (e.set i (.fz d))) : wpS (tAsg te (gName i)) env D' := fun B N F H σ R De l =>
  h B N F H σ R _ fun v d e F1 H1 f1 R1 r1 hk => l.nx F1 H1 _ _ f1 (R1.set r1) hk
theorem wps_retE (h : wpE te env fun d e => D'.rt d e) : wpS (tRet te) env D' := fun B N F H σ R De l => h B N F H σ R _ fun v d e F1 H1 f1 R1 r1 hk => l.rt F1 H1 σ e v d f1 R1 r1 hk
theorem wps_asgGE {g : TG} (h : wpE te env fun d e => ∃ e1 vs, wpG g d e e1 vs ∧ D'.nx e1) : wpS (tAsg te g) env D' := fun B N F H σ R De l =>
  h B N F H σ R _ fun v d e F1 H1 f1 R1 r1 ⟨e1, vs, hg, hk⟩ => hg B N F1 H1 σ v R1 r1 _ fun σ' R' _ _ => l.nx F1 H1 σ' e1 f1 R' hk
/-! a def that changes the object that its first argument is -/
structure GrX (p : Addr) (F H F' H' : Hp) : Prop where
  ff : Ex F F'
  fh : Ex F' H'
  hh : ∀ a o, a ≠ p → H a = some o → H' a = some o
  nw : ∀ a o, F' a = some o → F a = some o ∨ H a = none ∨ isTup o
def spIO (S : D → List D → (D → D → Prop) → Prop) : Sp := fun vs H Q _ => ∃ F p vs' d0 ds, vs = .ref p :: vs' ∧ Ex F H ∧ F p = none ∧ OwnAt F H p d0 ∧ RpA F vs' ds ∧
  S d0 ds fun d d1 => ∀ v F' H', GrX p F H F' H' → F' p = none → OwnAt F' H' p d1 → Rp F' v d → Q v H'
theorem wpe_callIO {S : D → List D → (D → D → Prop) → Prop} {E : XK} {ta : TA} {i : Nat} {q : Option Addr} {d0 : D} (hi : env[i]? = some (.ow q d0)) (h : EvA ta env ds) (hs : S d0 ds fun d d1 => k d (env.set i (.ow q d1))) (hm : ∀ (k1 k2 : D → D → Prop), (∀ a b, k1 a b → k2 a b) → S d0 ds k1 → S d0 ds k2) :
    wpE (tCall (spIO S) [] E (tCons (tVar i) ta)) env k := fun B N F H σ R Q qq => by
  obtain ⟨p, hp, hB, hF, ho, hN⟩ := R.own hi
  refine ⟨_, slot_of hp, h B N F H σ R _ fun vs F1 H1 g1 r1 => ?_⟩
  have R1 := R.grow g1
  obtain ⟨p', hp', hB1, hF1, ho1, hN1⟩ := R1.own hi
  rw [hp] at hp'
  cases hp'
  refine ⟨F1, p, vs, d0, ds, by rw [List.append_nil], g1.fh, hF1, ho1, r1, hm _ _ (fun d d1 hk v F' H' g hF' ho' rv => ?_) hs⟩
  refine qq v d (env.set i (.ow q d1)) F' H' (g1.ff.trans g.ff) ?_ rv hk
  have hl : i < env.length := (List.getElem?_eq_some_iff.mp hi).1
  refine ⟨g.fh, fun a o e => g.hh a o (fun c => by subst c; rw [hB1] at e; cases e) (R1.bh a o e), fun a o e => ?_, fun a e => ?_, by rw [List.length_set, R1.len], fun j s e => ?_, fun j j' q1 q2 x1 x2 p' e1 e2 f1 f2 => ?_⟩
  · rcases g.nw a o e with w | w | w
    · exact R1.fn a o w
    · exact .inl (R1.bn a w)
    · exact .inr w
  · refine R1.bn a ?_
    cases c : H1 a with
    | none => rfl
    | some o =>
      by_cases ca : a = p
      · subst ca
        obtain ⟨u, hu, _⟩ := ho'.there
        rw [e] at hu
        cases hu
      · rw [g.hh a o ca c] at e
        cases e
  · by_cases c : i = j
    · subst c
      rw [List.getElem?_set_self hl] at e
      cases e
      exact ⟨p, hp, hB1, hF', ho', hN1⟩
    · rw [List.getElem?_set_ne c] at e
      have w := R1.sl j s e
      cases s with
      | no => trivial
      | fz z => obtain ⟨u, a, b⟩ := w; exact ⟨u, a, b.mono g.ff⟩
      | lk p' z => obtain ⟨a, od, u, b, c⟩ := w; exact ⟨a, od, u, b, c.mono g.ff⟩
      | ow z x =>
        obtain ⟨p', w1, w2, w3, w4, w5⟩ := w
        have np : p' ≠ p := by
          rintro rfl
          exact c (R1.ds i j _ _ _ _ p' hi e hp w1)
        refine ⟨p', w1, w2, ?_, w4.mono g.ff fun o z => g.hh _ _ np z, w5⟩
        obtain ⟨u, hu, nt⟩ := w4.there
        cases c2 : F' p' with
        | none => rfl
        | some u2 =>
          have e3 := g.fh _ _ c2
          rw [g.hh _ _ np hu] at e3
          rcases g.nw _ _ c2 with a | a | a
          · rw [w3] at a; cases a
          · rw [hu] at a; cases a
          · rw [← Option.some.inj e3] at a; exact (nt a).elim
  · have gg : ∀ (j : Nat) (q1 : Option Addr) (d2 : D), (env.set i (.ow q d1))[j]? = some (.ow q1 d2) → ∃ q2 d2, env[j]? = some (.ow q2 d2) := fun j q1 d2 e => by
      by_cases c : i = j
      · subst c
        exact ⟨q, d0, hi⟩
      · rw [List.getElem?_set_ne c] at e
        exact ⟨q1, d2, e⟩
    obtain ⟨a1, b1, c1⟩ := gg j q1 _ e1
    obtain ⟨a2, b2, c2⟩ := gg j' q2 _ e2
    exact R1.ds j j' a1 a2 b1 b2 p' c1 c2 f1 f2
end
/-- the slots at the entry of such a def -/
def initIO (N : List Str) (p : Addr) (d0 : D) (ds : List D) : Env := .ow (some p) d0 :: (ds.map Sl.fz ++ List.replicate (N.length - (ds.length + 1)) Sl.no)
/-- at the end: the object at p is worth d1, in the first slot still -/
def retIO (p : Addr) (k : D → D → Prop) : DE := { nx := fun e => ∃ d1, e[0]? = some (.ow (some p) d1) ∧ k .non d1, rt := fun d e => ∃ d1, e[0]? = some (.ow (some p) d1) ∧ k d d1 }
theorem body_ofIO {S : D → List D → (D → D → Prop) → Prop} {N ps : List Str} {t : TS} {vs : List V} {H : Hp} {Q : VK} {E : XK} (hps : ps.length ≤ N.length) (h : spIO S vs H Q E) (hl : ∀ d0 ds k, S d0 ds k → ds.length + 1 = ps.length)
    (hw : ∀ p d0 ds k, S d0 ds k → wpS t (initIO N p d0 ds) (retIO p k)) : t { nx := fun _ H' => Q .non H', rt := Q } (L2.start N vs) H := by
  obtain ⟨F, p, vs', d0, ds, rfl, fh, hF, ho, r, hs⟩ := h
  have hlen := hl _ ds _ hs
  let B : Hp := fun a => if a = p then none else H a
  let M : Addr → Prop := fun a => F a ≠ none ∨ H a = none
  have gr : ∀ F' H' σ' env' d1, Ex F F' → Rel B M F' H' σ' env' → env'[0]? = some (.ow (some p) d1) → GrX p F H F' H' ∧ F' p = none ∧ OwnAt F' H' p d1 := fun F' H' σ' env' d1 e R h0 => by
    obtain ⟨p', _, _, a3, a4, a5⟩ := R.own h0
    have a5' : p' = p := a5
    subst a5'
    refine ⟨⟨e, R.fh, fun a o c z => R.bh a o (show (if a = p' then none else H a) = some o by rw [if_neg c]; exact z), fun a o q => ?_⟩, a3, a4⟩
    rcases R.fn a o q with (z | z) | z
    · cases w : F a with
      | none => exact (z w).elim
      | some u =>
        have := e a u w
        rw [q] at this
        exact .inl this.symm
    · exact .inr (.inl z)
    · exact .inr (.inr z)
  refine hw p d0 ds _ hs B M F H (L2.start N (.ref p :: vs')) ⟨fh, fun a o e => ?_, fun a o e => .inl (.inl (by rw [e]; exact fun z => nomatch z)), fun a e => .inr e, ?_, fun i s e => ?_, fun i j q q' d d' p' e1 e2 _ _ => ?_⟩ _
    ⟨fun F' H' σ' env' e R ⟨d1, h0, k⟩ => ?_, fun F' H' σ' env' v d e R r' ⟨d1, h0, k⟩ => ?_, fun _ _ _ _ _ _ z => z.elim, fun _ _ _ _ _ _ z => z.elim⟩
  · have e' : (if a = p then none else H a) = some o := e
    split at e'
    · cases e'
    · exact e'
  · unfold L2.start initIO
    have := r.length
    simp
    omega
  · cases i with
    | zero =>
      have e' : some (Sl.ow (some p) d0) = some s := e
      cases e'
      refine ⟨p, ?_, (show (if p = p then none else H p) = none from if_pos rfl), hF, ho, rfl⟩
      rw [start_get (by simp)]
      rfl
    | succ i =>
      have e' : (ds.map Sl.fz ++ List.replicate (N.length - (ds.length + 1)) Sl.no)[i]? = some s := e
      by_cases c : i < ds.length
      · rw [List.getElem?_append_left (by simpa using c), List.getElem?_map] at e'
        have e2 : ds[i]? = some ds[i] := by simp [c]
        rw [e2] at e'
        cases e'
        obtain ⟨v, h1, h2⟩ := r.get e2
        refine ⟨v, ?_, h2⟩
        rw [start_get (by simp; rw [r.length]; exact c), List.getElem?_cons_succ, h1]
        rfl
      · rw [List.getElem?_append_right (by simpa using c)] at e'
        have := List.eq_of_mem_replicate (List.mem_of_getElem? e')
        subst this
        trivial
  · have key : ∀ (i : Nat) (q : Option Addr) (d : D), (initIO N p d0 ds)[i]? = some (.ow q d) → i = 0 := fun i q d e => by
      cases i with
      | zero => rfl
      | succ i =>
        exfalso
        have e' : (ds.map Sl.fz ++ List.replicate (N.length - (ds.length + 1)) Sl.no)[i]? = some (Sl.ow q d) := e
        by_cases c : i < ds.length
        · rw [List.getElem?_append_left (by simpa using c), List.getElem?_map] at e'
          have e2 : ds[i]? = some ds[i] := by simp [c]
          rw [e2] at e'
          cases e'
        · rw [List.getElem?_append_right (by simpa using c)] at e'
          have := List.eq_of_mem_replicate (List.mem_of_getElem? e')
          cases this
    rw [key i _ _ e1, key j _ _ e2]
  · obtain ⟨a, b, c⟩ := gr F' H' σ' env' d1 e R h0
    exact k .non F' H' a b c .non
  · obtain ⟨a, b, c⟩ := gr F' H' σ' env' d1 e R h0
    exact k v F' H' a b c r'
theorem fn_okIO {P : Program} {w : World} {K : PySem.W.Frag} {mg : Str → Option Value} {base : Heap} {x qual : Str} {st : Stmt} {f : Addr} {fd : FuncData} {N ps : List Str} {k : Nat} {S : D → List D → (D → D → Prop) → Prop} (F : Fun K x qual st f fd) (sc : FnScope N ps (defScope st))
    (hl : ∀ d0 ds k, S d0 ds k → ds.length + 1 = ps.length) (hps : ps.length ≤ N.length)
    (hb : ∀ (cdv : Value) (A : Around) (outer : List PySem.Env) (s : Shared) (H : Hp) (E : XK), Room k (A.deeper (PyProof.Rows.envOfC qual (defScope st) s.heap.objs.size f cdv)) →
      ∃ t, PSs (cxOf CX0 P w K mg base N qual (defScope st) f cdv A outer s H E).nox (defBody st) t ∧ ∀ p d0 ds kk, S d0 ds kk → wpS t (initIO N p d0 ds) (retIO p kk)) : FnOk P w K mg base CX0 (k + 1) f fd ps (spIO S) := by
  refine F.ok sc (fun vs H Q E h => ?_) (fun cdv A outer s H vs Q E hr h => ?_)
  · obtain ⟨F, p, vs', d0, ds, rfl, _, _, _, r, hs⟩ := h
    rw [List.length_cons, r.length]
    exact hl _ ds _ hs
  · obtain ⟨t, ht, hw⟩ := hb cdv A outer s H E hr
    exact ⟨t, ht, body_ofIO (ps := ps) hps h hl hw⟩
end DL

/-! DL6: dicts walked under a lock; comprehensions with two fors. -/
namespace DL
open PySem L2
open Evl (Ex)
section
variable {K : PySem.W.Frag} {env : Env} {te ta tb ti : TE} {d x y : D} {ds es : List D} {D' : DE}
def isDict : D → Prop
  | .dK _ => True
  | .dT _ => True
  | _ => False
/-- no other slot is locked -/
def loneLk (e : Env) (i : Nat) : Bool := (e.set i .no).all fun s => match s with | .lk _ _ => false | _ => true
theorem loneLk_at {e : Env} {i j : Nat} {p : Addr} {d : D} (h : loneLk e i = true) (c : i ≠ j) (h2 : e[j]? = some (.lk p d)) : False := by
  have h3 : (e.set i .no)[j]? = some (.lk p d) := by rw [List.getElem?_set_ne c]; exact h2
  have := List.all_eq_true.mp h _ (List.mem_of_getElem? h3)
  cases this
theorem wps_lock {t : TS} (i : Nat) {q : Option Addr} (hi : env[i]? = some (.ow q d)) (hd : isDict d)
    (h : ∀ p, wpS t (env.set i (.lk p d)) { nx := fun e => e[i]? = some (.lk p d) ∧ loneLk e i = true ∧ D'.nx (e.set i (.ow q d)), rt := fun x e => e[i]? = some (.lk p d) ∧ loneLk e i = true ∧ D'.rt x (e.set i (.ow q d)), bk := fun e => e[i]? = some (.lk p d) ∧ loneLk e i = true ∧ D'.bk (e.set i (.ow q d)), ct := fun e => e[i]? = some (.lk p d) ∧ loneLk e i = true ∧ D'.ct (e.set i (.ow q d)) }) : wpS (tLock t) env D' := fun B N F H σ R De l => by
  obtain ⟨p, hp, hB, hF, ho, hN⟩ := R.own hi
  have hl : i < env.length := (List.getElem?_eq_some_iff.mp hi).1
  obtain ⟨u, hu, mu, lk, back⟩ : ∃ u, H p = some u ∧ Mut (some u) ∧ LkAt F u d ∧ ∀ F' H', Ex F F' → H' p = some u → OwnAt F' H' p d := by
    cases d with
    | dK kd => obtain ⟨kv, h1, h2, h3⟩ := ho; exact ⟨_, h1, trivial, ⟨kv, rfl, h2, h3⟩, fun F' H' e h => ⟨kv, h, h2, h3.mono e⟩⟩
    | dT kd => obtain ⟨kv, h1, h2, h3⟩ := ho; exact ⟨_, h1, trivial, ⟨kv, rfl, h2, h3⟩, fun F' H' e h => ⟨kv, h, h2, h3.mono e⟩⟩
    | _ => exact hd.elim
  refine ⟨p, u, hu, mu, fun od => ?_⟩
  have R1 : Rel (upd B p (.frz od u)) (fun a => N a ∧ a ≠ p) F (upd H p (.frz od u)) σ (env.set i (.lk p d)) := by
    refine ⟨fun a o e => ?_, fun a o e => ?_, fun a o e => ?_, fun a e => ?_, by rw [List.length_set, R.len], fun j s e => ?_, fun j k q1 q2 d1 d2 p' e1 e2 f1 f2 => ?_⟩
    · rw [upd_ne (fun c => by subst c; rw [hF] at e; cases e)]
      exact R.fh a o e
    · by_cases c : a = p
      · subst c
        rw [upd_same] at e ⊢
        exact e
      · rw [upd_ne c] at e ⊢
        exact R.bh a o e
    · have c : a ≠ p := fun c => by subst c; rw [hF] at e; cases e
      rcases R.fn a o e with w | w
      · exact .inl ⟨w, c⟩
      · exact .inr w
    · have c : a ≠ p := fun c => by subst c; rw [upd_same] at e; cases e
      rw [upd_ne c] at e
      exact ⟨R.bn a e, c⟩
    · by_cases c : i = j
      · subst c
        rw [List.getElem?_set_self hl] at e
        cases e
        exact ⟨hp, od, u, upd_same, lk⟩
      · rw [List.getElem?_set_ne c] at e
        have w := R.sl j s e
        cases s with
        | no => trivial
        | fz z => exact w
        | lk p' z =>
          obtain ⟨w1, od', u', w2, w3⟩ := w
          refine ⟨w1, od', u', ?_, w3⟩
          rw [upd_ne (fun c => by subst c; rw [hB] at w2; cases w2)]
          exact w2
        | ow z x =>
          obtain ⟨p', w1, w2, w3, w4, w5⟩ := w
          have np : p' ≠ p := by
            rintro rfl
            exact c (R.ds i j _ _ _ _ p' hi e hp w1)
          refine ⟨p', w1, by rw [upd_ne np]; exact w2, w3, w4.mono (Ex.refl _) fun o z => by rw [upd_ne np]; exact z, ?_⟩
          cases z with
          | none => exact ⟨w5, np⟩
          | some y => exact w5
    · have c1 : i ≠ j := by
        rintro rfl
        rw [List.getElem?_set_self hl] at e1
        cases e1
      have c2 : i ≠ k := by
        rintro rfl
        rw [List.getElem?_set_self hl] at e2
        cases e2
      rw [List.getElem?_set_ne c1] at e1
      rw [List.getElem?_set_ne c2] at e2
      exact R.ds j k q1 q2 d1 d2 p' e1 e2 f1 f2
  have fin : ∀ F' H' σ' env', Ex F F' → Rel (upd B p (.frz od u)) (fun a => N a ∧ a ≠ p) F' H' σ' env' → env'[i]? = some (.lk p d) → loneLk env' i = true → H' p = some (.frz od u) ∧ Rel B N F' (upd H' p u) σ' (env'.set i (.ow q d)) := fun F' H' σ' env' ex R' h0 h00 => by
    have hH : H' p = some (.frz od u) := R'.bh p _ upd_same
    have hl' : i < env'.length := (List.getElem?_eq_some_iff.mp h0).1
    obtain ⟨hp', _⟩ := R'.sl i _ h0
    have hF' : F' p = none := by
      cases c : F' p with
      | none => rfl
      | some o =>
        have e := R'.fh p o c
        rw [hH] at e
        cases e
        rcases R'.fn p _ c with w | w
        · exact (w.2 rfl).elim
        · exact w.elim
    refine ⟨hH, fun a o e => ?_, fun a o e => ?_, fun a o e => ?_, fun a e => ?_, by rw [List.length_set, R'.len], fun j s e => ?_, fun j k q1 q2 d1 d2 p' e1 e2 f1 f2 => ?_⟩
    · rw [upd_ne (fun c => by subst c; rw [hF'] at e; cases e)]
      exact R'.fh a o e
    · have c : a ≠ p := fun c => by subst c; rw [hB] at e; cases e
      rw [upd_ne c]
      exact R'.bh a o (by rw [upd_ne c]; exact e)
    · rcases R'.fn a o e with w | w
      · exact .inl w.1
      · exact .inr w
    · have c : a ≠ p := fun c => by subst c; rw [upd_same] at e; cases e
      rw [upd_ne c] at e
      exact (R'.bn a e).1
    · by_cases c : i = j
      · subst c
        rw [List.getElem?_set_self hl'] at e
        cases e
        exact ⟨p, hp', hB, hF', back F' _ ex upd_same, hN⟩
      · rw [List.getElem?_set_ne c] at e
        have w := R'.sl j s e
        cases s with
        | no => trivial
        | fz z => exact w
        | lk p' z =>
          obtain ⟨w1, od', u', w2, w3⟩ := w
          refine ⟨w1, od', u', ?_, w3⟩
          by_cases cp : p' = p
          · subst cp
            exact (loneLk_at h00 c e).elim
          · rw [upd_ne cp] at w2
            exact w2
        | ow z x =>
          obtain ⟨p', w1, w2, w3, w4, w5⟩ := w
          have np : p' ≠ p := by
            rintro rfl
            rw [upd_same] at w2
            cases w2
          refine ⟨p', w1, by rw [upd_ne np] at w2; exact w2, w3, w4.mono (Ex.refl _) fun o z => by rw [upd_ne np]; exact z, ?_⟩
          cases z with
          | none => exact w5.1
          | some y => exact w5
    · have g : ∀ (j : Nat) (q1 : Option Addr) (d1 : D), (env'.set i (.ow q d))[j]? = some (.ow q1 d1) → i ≠ j → ∃ p', σ'[j]?.join = some (.ref p') ∧ p' ≠ p := fun j q1 d1 e c => by
        rw [List.getElem?_set_ne c] at e
        obtain ⟨p', w1, w2, _⟩ := R'.own e
        refine ⟨p', w1, ?_⟩
        rintro rfl
        rw [upd_same] at w2
        cases w2
      by_cases c1 : i = j
      · by_cases c2 : i = k
        · exact c1.symm.trans c2
        · exfalso
          obtain ⟨p2, w1, w2⟩ := g k q2 d2 e2 c2
          rw [f2] at w1
          cases w1
          subst c1
          rw [hp'] at f1
          cases f1
          exact w2 rfl
      · by_cases c2 : i = k
        · exfalso
          obtain ⟨p2, w1, w2⟩ := g j q1 d1 e1 c1
          rw [f1] at w1
          cases w1
          subst c2
          rw [hp'] at f2
          cases f2
          exact w2 rfl
        · rw [List.getElem?_set_ne c1] at e1
          rw [List.getElem?_set_ne c2] at e2
          exact R'.ds j k q1 q2 d1 d2 p' e1 e2 f1 f2
  refine h p _ _ F _ σ R1 _ ⟨fun F' H' σ' env' e R' ⟨w1, w0, w2⟩ => ?_, fun F' H' σ' env' v x e R' r ⟨w1, w0, w2⟩ => ?_, fun F' H' σ' env' e R' ⟨w1, w0, w2⟩ => ?_, fun F' H' σ' env' e R' ⟨w1, w0, w2⟩ => ?_⟩
  · obtain ⟨a, b⟩ := fin F' H' σ' env' e R' w1 w0
    exact ⟨a, l.nx F' _ σ' _ e b w2⟩
  · obtain ⟨a, b⟩ := fin F' H' σ' env' e R' w1 w0
    exact ⟨a, l.rt F' _ σ' _ v x e b r w2⟩
  · obtain ⟨a, b⟩ := fin F' H' σ' env' e R' w1 w0
    exact ⟨a, l.bk F' _ σ' _ e b w2⟩
  · obtain ⟨a, b⟩ := fin F' H' σ' env' e R' w1 w0
    exact ⟨a, l.ct F' _ σ' _ e b w2⟩
/-- the keys of a locked dict -/
theorem ei_keysT {i : Nat} {p : Addr} {kd : List (List Key × D)} (hi : env[i]? = some (.lk p (.dT kd))) : EvI (iKeys (tVar i)) env ((kd.map (·.1)).map fun k => D.tup (k.map kD)) := fun B N F H σ R Q q => by
  obtain ⟨hp, od, u, hB, kv, rfl, hk, _⟩ := R.sl i _ hi
  have hH := R.bh _ _ hB
  refine ⟨_, slot_of hp, p, od, rfl, .inr ⟨kv, hH, q _ F H (Gr.refl R.fh) fun j F1 H1 b1 e1 f1 => ?_⟩⟩
  have hlen : kv.length = kd.length := by simpa using congrArg List.length hk
  have hH1 := b1 _ _ hB
  refine ⟨fun d hd => ?_, fun hl => ⟨hH1, by simp at hl; omega⟩⟩
  rw [← hk, List.map_map, List.getElem?_map] at hd
  cases c : kv[j]? with
  | none => rw [c] at hd; cases hd
  | some kv0 =>
    rw [c] at hd
    cases hd
    refine ⟨⟨hH1, (List.getElem?_eq_some_iff.mp c).1⟩, fun x H2 ⟨eh, k, v, q', ek, ex, eq⟩ => ?_⟩
    subst eh ex
    rw [c] at ek
    cases ek
    have hF : ∀ o, F1 q' = some o → o = .tup (k.map kV) := fun o h => by
      have := f1 _ _ h
      rw [eq] at this
      exact (Option.some.inj this).symm
    have e2 : Ex F1 (upd F1 q' (.tup (k.map kV))) := fun a o h => by
      by_cases ca : a = q'
      · subst ca
        rw [upd_same, hF o h]
      · rw [upd_ne ca]
        exact h
    refine ⟨upd F1 q' (.tup (k.map kV)), ⟨e2, fun a o h => ?_, Ex.refl _, fun a o h => ?_⟩, .tup upd_same (kDs_rp k)⟩
    · by_cases ca : a = q'
      · subst ca
        rw [upd_same] at h
        rw [← h]
        exact eq
      · rw [upd_ne ca] at h
        exact f1 a o h
    · by_cases ca : a = q'
      · subst ca
        rw [upd_same] at h
        rw [← Option.some.inj h]
        exact .inr (.inr trivial)
      · rw [upd_ne ca] at h
        exact .inl h
theorem ei_keysK {i : Nat} {p : Addr} {kd : List (Key × D)} (hi : env[i]? = some (.lk p (.dK kd))) : EvI (iKeys (tVar i)) env ((kd.map (·.1)).map kD) := fun B N F H σ R Q q => by
  obtain ⟨hp, od, u, hB, kv, rfl, hk, _⟩ := R.sl i _ hi
  have hH := R.bh _ _ hB
  refine ⟨_, slot_of hp, p, od, rfl, .inl ⟨kv, hH, q _ F H (Gr.refl R.fh) fun j F1 H1 b1 e1 f1 => ?_⟩⟩
  have hlen : kv.length = kd.length := by simpa using congrArg List.length hk
  have hH1 := b1 _ _ hB
  refine ⟨fun d hd => ?_, fun hl => ⟨hH1, by simp at hl; omega⟩⟩
  rw [← hk, List.map_map, List.getElem?_map] at hd
  cases c : kv[j]? with
  | none => rw [c] at hd; cases hd
  | some kv0 =>
    rw [c] at hd
    cases hd
    refine ⟨⟨hH1, (List.getElem?_eq_some_iff.mp c).1⟩, fun x H2 ⟨eh, k, v, ek, ex⟩ => ?_⟩
    subst eh ex
    rw [c] at ek
    cases ek
    exact ⟨F1, Gr.refl f1, kD_rp k⟩
/-- the list that a comprehension makes, at Dl, stands among what is kept; it grows -/
theorem Rel.bump {B : Hp} {N : Addr → Prop} {F H : Hp} {σ : St} {Dl : Addr} {ac ac' : List V} (R : Rel (upd B Dl (.lst ac)) (fun a => N a ∧ a ≠ Dl) F H σ env) (hf : F Dl = none) : Rel (upd B Dl (.lst ac')) (fun a => N a ∧ a ≠ Dl) F (upd H Dl (.lst ac')) σ env := by
  refine ⟨fun a o h => ?_, fun a o h => ?_, R.fn, fun a h => ?_, R.len, fun j s h => ?_, R.ds⟩
  · rw [upd_ne (fun c => by subst c; rw [hf] at h; cases h)]
    exact R.fh a o h
  · by_cases c : a = Dl
    · subst c
      rw [upd_same] at h ⊢
      exact h
    · rw [upd_ne c] at h ⊢
      exact R.bh a o (by rw [upd_ne c]; exact h)
  · have c : a ≠ Dl := fun c => by subst c; rw [upd_same] at h; cases h
    rw [upd_ne c] at h
    exact R.bn a h
  · have hs := R.sl j s h
    cases s with
    | no => trivial
    | fz d => exact hs
    | lk p d =>
      obtain ⟨e1, od, u, e2, e3⟩ := hs
      have hp : p ≠ Dl := by
        rintro rfl
        rw [upd_same] at e2
        cases e2
      exact ⟨e1, od, u, by rw [upd_ne hp] at e2 ⊢; exact e2, e3⟩
    | ow z d =>
      obtain ⟨p, e1, e2, e3, e4, e5⟩ := hs
      have hp : p ≠ Dl := by
        rintro rfl
        rw [upd_same] at e2
        cases e2
      exact ⟨p, e1, by rw [upd_ne hp] at e2 ⊢; exact e2, e3, e4.mono (Ex.refl _) fun o z => by rw [upd_ne hp]; exact z, e5⟩
theorem Rel.unp {B : Hp} {N : Addr → Prop} {F H : Hp} {σ : St} {Dl : Addr} {ac : List V} (R : Rel (upd B Dl (.lst ac)) N F H σ env) (hB : B Dl = none) : Rel B N F H σ env := by
  refine ⟨R.fh, fun a o h => ?_, R.fn, R.bn, R.len, fun j s h => ?_, R.ds⟩
  · have c : a ≠ Dl := fun c => by subst c; rw [hB] at h; cases h
    exact R.bh a o (by rw [upd_ne c]; exact h)
  · have hs := R.sl j s h
    cases s with
    | no => trivial
    | fz d => exact hs
    | lk p d =>
      obtain ⟨e1, od, u, e2, e3⟩ := hs
      have hp : p ≠ Dl := by
        rintro rfl
        rw [upd_same] at e2
        cases e2
      exact ⟨e1, od, u, by rw [upd_ne hp] at e2; exact e2, e3⟩
    | ow z d =>
      obtain ⟨p, e1, e2, e3, e4, e5⟩ := hs
      have hp : p ≠ Dl := by
        rintro rfl
        rw [upd_same] at e2
        cases e2
      exact ⟨p, e1, by rw [upd_ne hp] at e2; exact e2, e3, e4, e5⟩
theorem gr_keep {Fx Hx Fy Hy : Hp} {Dl : Addr} {ac : List V} (h1 : Fx Dl = none) (h2 : Hx Dl = some (.lst ac)) (gx : Gr Fx Hx Fy Hy) : Fy Dl = none := by
  cases c : Fy Dl with
  | none => rfl
  | some o =>
    have e1 := gx.fh _ _ c
    rw [gx.hh _ _ h2] at e1
    rcases gx.nw _ _ c with w | w | w
    · rw [h1] at w; cases w
    · rw [h2] at w; cases w
    · rw [← Option.some.inj e1] at w; exact w.elim
theorem gr_put {F1 H1 Fx Hx : Hp} {Dl : Addr} {o : HO} (g : Gr F1 H1 Fx Hx) (h1 : H1 Dl = none) (h2 : Fx Dl = none) : Gr F1 H1 Fx (upd Hx Dl o) := by
  refine ⟨g.ff, fun a o h => ?_, fun a o h => ?_, g.nw⟩
  · rw [upd_ne (fun c => by subst c; rw [h2] at h; cases h)]
    exact g.fh a o h
  · rw [upd_ne (fun c => by subst c; rw [h1] at h; cases h)]
    exact g.hh a o h
/-- [elt for t in iter if test for t1 in iter1]: the second's walk for each of the first -/
theorem evN_lc2 {α β : Type} {wi wi1 : TI} {g g1 : TG} {vs vs1 : List Nat} {xs : List α} {e : α → D} (ys : α → List β) (e1 : α → β → D) (z : α → β → D) (m : Nat) (hi : EvI wi env (xs.map e)) (hn : xs.length * m ≤ 100000) (hm : ∀ x ∈ xs, (ys x).length ≤ m)
    (turn : ∀ x ∈ xs, ∃ env2, wpG g (e x) (wipeD env vs) env2 vs ∧ EvI wi1 env2 ((ys x).map (e1 x)) ∧ ∀ y ∈ ys x, ∃ env3, wpG g1 (e1 x y) (wipeD env2 vs1) env3 vs1 ∧ Ev te env3 (z x y)) :
    EvN (tLc2 wi g tYes wi1 g1 tYes te vs vs1) env (.lst ((xs.map fun x => (ys x).map (z x)).flatten)) := fun B N F H σ R Q q =>
  hi B N F H σ R _ fun J F1 H1 g1' hy Dl hD => by
    have R1 := R.grow g1'
    have hFl : F1 Dl = none := Evl.fresh_back g1'.fh hD
    have hBl : B Dl = none := Evl.fresh_back R1.bh hD
    have bound : ∀ l : List α, (∀ x ∈ l, (ys x).length ≤ m) → ((l.map fun x => (ys x).map (z x)).flatten).length ≤ l.length * m := fun l => by
      induction l with
      | nil => intro _; simp
      | cons x l ih =>
        intro h
        have h1 := h x List.mem_cons_self
        have h2 := ih fun y hy => h y (List.mem_cons_of_mem _ hy)
        simp only [List.map_cons, List.flatten_cons, List.length_append, List.length_map, List.length_cons]
        rw [Nat.succ_mul]
        omega
    refine ⟨fun i k H2 => k = xs.length - i ∧ i ≤ xs.length ∧ ∃ F2 acc, Gr F1 H1 F2 H2 ∧ F2 Dl = none ∧ H2 Dl = some (.lst acc) ∧ RpA F2 acc (((xs.take i).map fun x => (ys x).map (z x)).flatten),
      ⟨xs.length, by simp, Nat.zero_le _, F1, [], Gr.loose g1'.fh hD, hFl, upd_same, .nil⟩, ?_⟩
    rintro i k H2 ⟨rfl, hle, F2, acc, g2, hf2, hd2, ra⟩
    obtain ⟨y1, y2⟩ := hy i F2 H2 (R1.bh.trans g2.hh) g2.ff g2.fh
    by_cases hlt : i < xs.length
    · have hx : xs[i]? = some xs[i] := by simp [hlt]
      obtain ⟨go, yl⟩ := y1 (e xs[i]) (by rw [List.getElem?_map, hx] <;> rfl)
      refine .inr ⟨go, fun H3 => ∃ F3 acc, Gr F1 H1 F3 H3 ∧ F3 Dl = none ∧ H3 Dl = some (.lst acc) ∧ RpA F3 acc (((xs.take (i + 1)).map fun x => (ys x).map (z x)).flatten), fun H3 ⟨F3, acc, a1, a2, a3, a4⟩ => ⟨xs.length - (i + 1), by omega, rfl, hlt, F3, acc, a1, a2, a3, a4⟩, fun x H3 yd => ?_⟩
      obtain ⟨F3, g3, r3⟩ := yl x H3 yd
      obtain ⟨env2, wg, wi2, wt⟩ := turn xs[i] (List.getElem_mem hlt)
      have ext : xs.take (i + 1) = xs.take i ++ [xs[i]] := by rw [List.take_succ, hx] <;> rfl
      -- with the new list among what is kept
      have mkR : ∀ (Fx Hx : Hp) (ac : List V), Gr F1 H1 Fx Hx → Fx Dl = none → Hx Dl = some (.lst ac) → Rel (upd B Dl (.lst ac)) (fun a => N a ∧ a ≠ Dl) Fx Hx σ env := fun Fx Hx ac gx hfx hdx => by
        have R3' := R1.grow gx
        refine ⟨R3'.fh, fun a o h => ?_, fun a o h => ?_, fun a h => ?_, R3'.len, fun j s h => ?_, R3'.ds⟩
        · by_cases c : a = Dl
          · subst c
            rw [upd_same] at h
            rw [← h]
            exact hdx
          · rw [upd_ne c] at h
            exact R3'.bh a o h
        · by_cases c : a = Dl
          · subst c
            rw [hfx] at h
            cases h
          · rcases R3'.fn a o h with w | w
            · exact .inl ⟨w, c⟩
            · exact .inr w
        · refine ⟨R3'.bn a h, fun c => ?_⟩
          subst c
          rw [hdx] at h
          cases h
        · have hs := R3'.sl j s h
          cases s with
          | no => trivial
          | fz d => exact hs
          | lk p d =>
            obtain ⟨e1, od, u, e2, e3⟩ := hs
            have hp : p ≠ Dl := by
              rintro rfl
              rw [hBl] at e2
              cases e2
            exact ⟨e1, od, u, by rw [upd_ne hp]; exact e2, e3⟩
          | ow z d =>
            obtain ⟨p, e1, e2, e3, e4, e5⟩ := hs
            have hp : p ≠ Dl := by
              rintro rfl
              obtain ⟨p', e1', _, _, o4, _⟩ := R1.own h
              rw [e1'] at e1
              cases e1
              obtain ⟨w, hw, _⟩ := o4.there
              rw [hD] at hw
              cases hw
            refine ⟨p, e1, by rw [upd_ne hp]; exact e2, e3, e4, ?_⟩
            cases z with
            | none => exact ⟨e5, hp⟩
            | some y => exact e5
      have hf3 := gr_keep hf2 hd2 g3
      have hd3 : H3 Dl = some (.lst acc) := g3.hh _ _ hd2
      have g13 := g2.trans g3
      refine wg _ _ F3 H3 (L2.wipe σ vs) x ((mkR F3 H3 acc g13 hf3 hd3).wipe vs) r3 _ fun σ2 R4 hl4 ho4 => ⟨wipe_wipe (by rw [hl4, wipe_length]) ho4, ?_⟩
      show wi1 σ2 H3 _
      refine wi2 _ _ F3 H3 σ2 (R4.unp hBl) _ fun J1 F4 H4 g4 hy1 => ?_
      have g14 := g13.trans g4
      have hf4 := gr_keep hf3 hd3 g4
      have hd4 : H4 Dl = some (.lst acc) := g4.hh _ _ hd3
      refine ⟨fun j k' H5 => k' = (ys xs[i]).length - j ∧ j ≤ (ys xs[i]).length ∧ ∃ F5 acc', Ex F4 F5 ∧ Gr F1 H1 F5 H5 ∧ F5 Dl = none ∧ H5 Dl = some (.lst acc') ∧ RpA F5 acc' (((xs.take i).map fun x => (ys x).map (z x)).flatten ++ ((ys xs[i]).take j).map (z xs[i])) ∧
          Rel (upd B Dl (.lst acc')) (fun a => N a ∧ a ≠ Dl) F5 H5 σ2 env2,
        ⟨(ys xs[i]).length, by simp, Nat.zero_le _, F4, acc, Ex.refl _, g14, hf4, hd4, by rw [List.take_zero, List.map_nil, List.append_nil]; exact ra.mono (g3.trans g4).ff, R4.grow g4⟩, ?_⟩
      rintro j k' H5 ⟨rfl, hle', F5, acc', ex45, g15, hf5, hd5, ra5, R5⟩
      obtain ⟨y3, y4⟩ := hy1 j F5 H5 (R5.unp hBl).bh ex45 R5.fh
      by_cases hlt' : j < (ys xs[i]).length
      · have hx' : (ys xs[i])[j]? = some (ys xs[i])[j] := by simp [hlt']
        obtain ⟨go', yl'⟩ := y3 (e1 xs[i] (ys xs[i])[j]) (by rw [List.getElem?_map, hx'] <;> rfl)
        refine .inr ⟨go', fun H6 => ∃ F6 acc', Ex F4 F6 ∧ Gr F1 H1 F6 H6 ∧ F6 Dl = none ∧ H6 Dl = some (.lst acc') ∧ RpA F6 acc' (((xs.take i).map fun x => (ys x).map (z x)).flatten ++ ((ys xs[i]).take (j + 1)).map (z xs[i])) ∧
            Rel (upd B Dl (.lst acc')) (fun a => N a ∧ a ≠ Dl) F6 H6 σ2 env2, fun H6 ⟨F6, a, b⟩ => ⟨(ys xs[i]).length - (j + 1), by omega, rfl, hlt', F6, a, b⟩, fun y H6 yd' => ?_⟩
        obtain ⟨F6, g6, r6⟩ := yl' y H6 yd'
        obtain ⟨env3, wg3, we3⟩ := wt _ (List.getElem_mem hlt')
        refine wg3 _ _ F6 H6 (L2.wipe σ2 vs1) y ((R5.grow g6).wipe vs1) r6 _ fun σ3 R7 hl7 ho7 => ⟨wipe_wipe (by rw [hl7, wipe_length]) ho7, ?_⟩
        show te σ3 H6 _
        refine we3 _ _ F6 H6 σ3 R7 _ fun v F8 H8 g8 r8 => ?_
        have g68 := g6.trans g8
        have hf8 := gr_keep hf5 hd5 g68
        have hd8 : H8 Dl = some (.lst acc') := g68.hh _ _ hd5
        have hlen : acc'.length < 100001 := by
          rw [ra5.length, List.length_append, List.length_map]
          have b1 := bound (xs.take i) fun x hx => hm x (List.mem_of_mem_take hx)
          have b2 := hm xs[i] (List.getElem_mem hlt)
          have b3 : ((ys xs[i]).take j).length ≤ m := by rw [List.length_take]; omega
          have b4 : (xs.take i).length = i := by rw [List.length_take]; omega
          rw [b4] at b1
          have b5 : (i + 1) * m ≤ xs.length * m := Nat.mul_le_mul_right m hlt
          rw [Nat.succ_mul] at b5
          omega
        refine ⟨acc', hd8, Nat.lt_of_lt_of_le hlen (by decide), F8, acc' ++ [v], (ex45.trans g68.ff), gr_put (g15.trans g68) hD hf8, hf8, upd_same, ?_, ((R5.grow g68).bump hf8)⟩
        have ext' : (ys xs[i]).take (j + 1) = (ys xs[i]).take j ++ [(ys xs[i])[j]] := by rw [List.take_succ, hx'] <;> rfl
        rw [ext', List.map_append, ← List.append_assoc]
        exact (ra5.mono g68.ff).append (.cons r8 .nil)
      · have e' : j = (ys xs[i]).length := by omega
        subst e'
        refine .inl ⟨y4 (by rw [List.length_map]; exact Nat.le_refl _), F5, acc', g15, hf5, hd5, ?_⟩
        rw [ext, List.map_append, List.flatten_append]
        rw [List.take_length] at ra5
        simpa using ra5
    · have e' : i = xs.length := by omega
      subst e'
      rw [List.take_length] at ra
      exact .inl ⟨y2 (by rw [List.length_map]; exact Nat.le_refl _), q Dl F2 H2 (g1'.trans g2) (gr_none g1' hD) hf2 ⟨acc, hd2, ra⟩⟩
end
end DL

/-! DL7: sorted of alike data, of any length. -/
namespace DL
open PySem L2
open PySem.W (EachIs AllAlike Sortable dataLt alike keyToks)
open Evl (Ex)
section
variable {X : Cx}
def rSortedD (K : PySem.W.Frag) : List V → Hp → VK → Prop := fun vs H Q => ∃ (a : Addr) (xs : List V) (ps : List (V × PyData)), vs = [.ref a] ∧ SqL K H a xs ∧ ps.map (·.1) = xs ∧ (∀ p ∈ ps, Dp K H p.1 p.2) ∧ AllAlike (ps.map (·.2)) ∧ Sortable (ps.map (·.2)) ∧ (∀ p ∈ ps, p.2.depth ≤ 60) ∧
  ∀ q, H q = none → Q (.ref q) (upd H q (.lst ((ps.mergeSort fun a b => !dataLt b.2 a.2).map (·.1))))
theorem each_of {s : Shared} {pins : List (Addr × Obj)} {σ : St} {H : Hp} (I : Inv X pins σ H s) : ∀ (ps : List (V × PyData)) (its : List Value), Vals (ps.map (·.1)) its → (∀ p ∈ ps, Dp X.K H p.1 p.2) →
    EachIs (fun u (p : V × PyData) => RelV p.1 u ∧ ∃ as, Reads s.heap u p.2 as) its ps
  | [], _, .nil, _ => .nil
  | p :: ps, _, .cons r rs, h => by
    obtain ⟨as, e⟩ := Dp.reads I p.2 p.1 _ (h p List.mem_cons_self) r
    exact .cons ⟨r, as, e⟩ (each_of I ps _ rs fun q hq => h q (List.mem_cons_of_mem _ hq))
theorem each_vals : ∀ {us : List Value} {ps : List (V × PyData)}, EachIs (fun u (p : V × PyData) => RelV p.1 u) us ps → Vals (ps.map (·.1)) us
  | _, _, .nil => .nil
  | _, _, .cons r rs => .cons r (each_vals rs)
theorem each_map {α β γ : Type} {R : α → γ → Prop} (f : β → γ) : ∀ {us : List α} {ps : List β}, EachIs (fun u p => R u (f p)) us ps → EachIs R us (ps.map f)
  | _, _, .nil => .nil
  | _, _, .cons r rs => .cons r (each_map f rs)
theorem each_with {α β : Type} {R : α → β → Prop} {T : β → Prop} : ∀ {us : List α} {ps : List β}, EachIs R us ps → (∀ p ∈ ps, T p) → EachIs (fun u p => R u p ∧ T p) us ps
  | _, _, .nil, _ => .nil
  | _, _, .cons r rs, h => .cons ⟨r, h _ List.mem_cons_self⟩ (each_with rs fun p hp => h p (List.mem_cons_of_mem _ hp))
theorem cr_sortedD (hu : X.A.units + 64 < cLine) : CallR X (.builtin "sorted") (rSortedD X.K) := by
  intro pins s σ H vs us Q I r h
  obtain ⟨a, xs, ps, rfl, hs, rfl, hd, hal, hso, hdp, q⟩ := h
  obtain ⟨its, rv, hl, hz⟩ := I.list hs
  rw [Vals.ref1 r]
  have e := each_of I ps its rv hd
  have hlen : its.length = ps.length := by rw [← rv.length, List.length_map]
  have kp : ∀ b o, s.heap.get? b = some o → (PySem.W.sortingHeap (PySem.W.copyHeap s.heap its) (s.heap.objs.size + 1) its).get? b = some o := fun b o q => PySem.W.sorting_copy_old q
  have e2 : EachIs (fun v d => ∃ as, Reads (PySem.W.sortingHeap (PySem.W.copyHeap s.heap its) (s.heap.objs.size + 1) its) v d as) its (ps.map (·.2)) :=
    each_map (R := fun v d => ∃ as, Reads (PySem.W.sortingHeap (PySem.W.copyHeap s.heap its) (s.heap.objs.size + 1) its) v d as) (fun p : V × PyData => p.2) (e.mono fun u p ⟨_, as, z⟩ => ⟨as, PyProof.Rows.Reads.keeps kp z⟩)
  refine PySem.W.sorted_vals (κ := PySem.W.dataKind (PySem.W.sortingHeap (PySem.W.copyHeap s.heap its) (s.heap.objs.size + 1) its) (ps.map (·.2))) hl.isList (PySem.W.SortsAt.data (s := { s with heap := PySem.W.sortingHeap (PySem.W.copyHeap s.heap its) (s.heap.objs.size + 1) its }) e2 hal hso fun d hm => ?_) (by rw [hlen, ← List.length_map (f := (·.1))]; exact hz) ?_
  · obtain ⟨p, hp, rfl⟩ := List.mem_map.mp hm
    have := hdp p hp
    show X.A.units + 1 + 1 + p.2.depth < cLine
    omega
  · have e3 : EachIs (fun v (p : V × PyData) => (PySem.W.dataKind (PySem.W.sortingHeap (PySem.W.copyHeap s.heap its) (s.heap.objs.size + 1) its) (ps.map (·.2))).keyOf v = some (keyToks p.2)) its ps :=
      (each_with e (T := fun p => p.2 ∈ ps.map (·.2)) fun p hp => List.mem_map.mpr ⟨p, hp, rfl⟩).mono fun u p ⟨⟨_, as, z⟩, hm⟩ => PySem.W.dataKind_some hal hm (PyProof.Rows.Reads.keeps kp z)
    have e4 := PySem.W.sortVals_each (rev := false) (κ := PySem.W.dataKind (PySem.W.sortingHeap (PySem.W.copyHeap s.heap its) (s.heap.objs.size + 1) its) (ps.map (·.2))) (fun p : V × PyData => keyToks p.2) (e.mono fun u p z => z.1) e3
    have e5 := each_vals e4
    have eo : (ps.mergeSort fun a b => !dataLt b.2 a.2) = ps.mergeSort (PySem.W.sortLe (PySem.W.dataKind (PySem.W.sortingHeap (PySem.W.copyHeap s.heap its) (s.heap.objs.size + 1) its) (ps.map (·.2))).toKeyOrd false fun p : V × PyData => keyToks p.2) := rfl
    obtain ⟨ep, he'⟩ := PyProof.Rows.sortedAll_at s.heap its (PySem.W.sortVals (PySem.W.dataKind (PySem.W.sortingHeap (PySem.W.copyHeap s.heap its) (s.heap.objs.size + 1) its) (ps.map (·.2))) false its its).toArray
    have hln : ((ps.mergeSort fun a b => !dataLt b.2 a.2).map (·.1)).length ≤ sizeLine := by
      rw [List.length_map, (List.mergeSort_perm _ _).length_eq, ← List.length_map (f := (·.1))]
      exact hz
    exact ⟨.ref _, upd H (s.heap.objs.size + 1) (.lst ((ps.mergeSort fun a b => !dataLt b.2 a.2).map (·.1))), I.laid (t' := s.toks) (fun _ _ => PyProof.Rows.sortedAll_old) (Nat.le_succ _) ⟨hln, _, ep, by rw [eo]; exact e5, by simpa using he'⟩, rfl, q _ (I.hok.fresh (Nat.le_succ _))⟩
end
/-- data in the order of Python's < -/
def sortD (ds : List D) : List D := ds.mergeSort fun a b => !dataLt b.py a.py
section
variable {K : PySem.W.Frag}
theorem RpA.zip {F H : Hp} (e : Ex F H) (n : Nat) : ∀ {vs : List V} {ds : List D}, RpA F vs ds → D.plA ds n = true → ∀ p ∈ vs.zip ds, Dp K H p.1 p.2.py ∧ Rp F p.1 p.2
  | _, _, .nil, _, p, hp => by cases hp
  | _, _, .cons r rs, h, p, hp => by
    rw [D.plA, Bool.and_eq_true] at h
    rcases List.mem_cons.mp hp with rfl | hp
    · exact ⟨py_dp e n r h.1, r⟩
    · exact RpA.zip e n rs h.2 p hp
theorem rpA_of {F : Hp} : ∀ (l : List (V × D)), (∀ p ∈ l, Rp F p.1 p.2) → RpA F (l.map (·.1)) (l.map (·.2))
  | [], _ => .nil
  | p :: l, h => .cons (h p List.mem_cons_self) (rpA_of l fun q hq => h q (List.mem_cons_of_mem _ hq))
theorem rcn_sorted {ds : List D} {n : Nat} (h : D.plA ds n = true) (hn : n ≤ 60) (hal : AllAlike (ds.map D.py)) (hso : Sortable (ds.map D.py)) : RCN (rSortedD K) [.lst ds] (.lst (sortD ds)) := fun F H vs e rv Q q => by
  cases rv with
  | cons r rn =>
    cases rn
    cases r with
    | @lst a ws _ ea r =>
      have hl := r.length
      have z := RpA.zip (K := K) e n r h
      have m1 : (ws.zip ds).map (·.1) = ws := List.map_fst_zip (by omega)
      have m2 : (ws.zip ds).map (·.2) = ds := List.map_snd_zip (by omega)
      let f : V × D → V × PyData := fun p => (p.1, p.2.py)
      have c1 : ((ws.zip ds).map f).map (·.1) = ws := by rw [List.map_map]; exact m1
      have c2 : ((ws.zip ds).map f).map (·.2) = ds.map D.py := by
        rw [List.map_map]
        have : ((fun p : V × PyData => p.2) ∘ f) = D.py ∘ fun p : V × D => p.2 := rfl
        rw [this, ← List.map_map, m2]
      refine ⟨a, ws, (ws.zip ds).map f, rfl, .inl (.inl (e _ _ ea)), c1, fun p hp => ?_, by rw [c2]; exact hal, by rw [c2]; exact hso, fun p hp => ?_, fun p hp => ?_⟩
      · obtain ⟨w, hw, rfl⟩ := List.mem_map.mp hp
        exact (z w hw).1
      · obtain ⟨w, hw, rfl⟩ := List.mem_map.mp hp
        have hm : w.2 ∈ ds := (List.of_mem_zip (show (w.1, w.2) ∈ ws.zip ds from hw)).2
        rw [plA_all] at h
        have := (py_lay w.2 n (List.all_eq_true.mp h _ hm)).2
        show w.2.py.depth ≤ 60
        omega
      · have s1 : (((ws.zip ds).map f).mergeSort fun a b => !dataLt b.2 a.2) = ((ws.zip ds).mergeSort fun a b => !dataLt b.2.py a.2.py).map f := (List.map_mergeSort (f := f) (l := ws.zip ds) (fun _ _ _ _ => rfl)).symm
        have s2 : ((ws.zip ds).mergeSort fun a b => !dataLt b.2.py a.2.py).map (·.2) = sortD ds := by
          unfold sortD
          rw [List.map_mergeSort (s := fun a b : D => !dataLt b.py a.py) (fun _ _ _ _ => rfl), m2]
        refine q p F _ (Gr.loose e hp) hp (Evl.fresh_back e hp) ⟨_, upd_same, ?_⟩
        rw [s1, List.map_map, ← s2]
        exact rpA_of _ fun w hw => (z w ((List.mergeSort_perm _ _).mem_iff.mp hw)).2
end
/-! the order, by kinds -/
/-- insertion into a sorted list -/
def ins1 {α : Type} (le : α → α → Bool) (x : α) : List α → List α
  | [] => [x]
  | y :: ys => if le x y then x :: y :: ys else y :: ins1 le x ys
def isort {α : Type} (le : α → α → Bool) : List α → List α
  | [] => []
  | x :: xs => ins1 le x (isort le xs)
theorem ins1_perm {α : Type} (le : α → α → Bool) (x : α) : ∀ l : List α, (ins1 le x l).Perm (x :: l)
  | [] => .refl _
  | y :: ys => by
    unfold ins1
    split
    · exact .refl _
    · exact ((ins1_perm le x ys).cons y).trans (.swap x y ys)
theorem isort_perm {α : Type} (le : α → α → Bool) : ∀ l : List α, (isort le l).Perm l
  | [] => .refl _
  | x :: xs => (ins1_perm le x _).trans ((isort_perm le xs).cons x)
theorem ins1_sorted {α : Type} {le : α → α → Bool} (T : PySem.W.TotalLe le) (x : α) : ∀ l : List α, l.Pairwise (fun a b => le a b = true) → (ins1 le x l).Pairwise (fun a b => le a b = true)
  | [], _ => by simp [ins1]
  | y :: ys, h => by
    unfold ins1
    rw [List.pairwise_cons] at h
    split
    · rename_i c
      refine List.pairwise_cons.mpr ⟨fun z hz => ?_, List.pairwise_cons.mpr h⟩
      rcases List.mem_cons.mp hz with rfl | hz
      · exact c
      · exact T.trans _ _ _ c (h.1 z hz)
    · rename_i c
      refine List.pairwise_cons.mpr ⟨fun z hz => ?_, ins1_sorted T x ys h.2⟩
      rcases List.mem_cons.mp ((ins1_perm le x ys).mem_iff.mp hz) with rfl | hz
      · exact (T.total z y).resolve_left (by simpa using c)
      · exact h.1 z hz
theorem isort_sorted {α : Type} {le : α → α → Bool} (T : PySem.W.TotalLe le) : ∀ l : List α, (isort le l).Pairwise (fun a b => le a b = true)
  | [] => .nil
  | x :: xs => ins1_sorted T x _ (isort_sorted T xs)
theorem isort_eq {α : Type} {le : α → α → Bool} (T : PySem.W.TotalLe le) (anti : ∀ a b, le a b = true → le b a = true → a = b) (l : List α) : l.mergeSort le = isort le l := by
  have h1 := PySem.W.sort_pairwise T l
  have h2 := isort_sorted T l
  have hp : (l.mergeSort le).Perm (isort le l) := (List.mergeSort_perm l le).trans (isort_perm le l).symm
  exact hp.eq_of_pairwise (fun a b _ _ x y => anti a b x y) h1 h2
end DL

/-! DL8: the hand layer's rules with the written part K told (so that a block's reading does not speak of the block). -/
namespace DL
open PySem L2
section
variable {X : Cx} {K : PySem.W.Frag}
theorem k_eqD (hK : X.K = K) (hu : X.A.units + 64 < cLine) : OpR X (compareOp .Eq) (rEqD K) := by subst hK; exact op_eqD hu
theorem k_neD (hK : X.K = K) (hu : X.A.units + 64 < cLine) : OpR X (compareOp .NotEq) (rNeD K) := by subst hK; exact op_neD hu
theorem k_ixL (hK : X.K = K) : IxR X (rIxL K) := by subst hK; exact ix_list
theorem k_ixT (hK : X.K = K) : IxR X (rIxT K) := by subst hK; exact ix_tup
theorem k_slL (hK : X.K = K) : SlR X (rSlL K) := by subst hK; exact sl_list
theorem k_slT (hK : X.K = K) : SlR X (rSlA K) := by subst hK; exact sl_tupA
theorem k_catT (hK : X.K = K) : OpR X (binaryOp .Add) (rCatA K) := by subst hK; exact op_catA
theorem k_len (hK : X.K = K) : CallR X (.builtin "len") (fun xs H Q => ∃ x n, xs = [x] ∧ LenV K x H n ∧ Q (.int n) H) := by subst hK; exact call_len
theorem k_sum (hK : X.K = K) (hc : X.calm = true) : CallR X (.builtin "sum") (rSum K) := by subst hK; exact cr_sum hc
theorem k_any (hK : X.K = K) (hc : X.calm = true) : CallR X (.builtin "any") (rAny K) := by subst hK; exact cr_any hc
theorem k_all (hK : X.K = K) (hc : X.calm = true) : CallR X (.builtin "all") (rAll K) := by subst hK; exact cr_all hc
theorem k_max (hK : X.K = K) (hc : X.calm = true) : CallR X (.builtin "max") (rMax K) := by subst hK; exact cr_max hc
theorem k_min (hK : X.K = K) (hc : X.calm = true) : CallR X (.builtin "min") (rMin K) := by subst hK; exact cr_min hc
theorem k_tupleOf (hK : X.K = K) : CallR X (.type "tuple") (fun xs H Q => ∃ p ys, xs = [.ref p] ∧ ((SqL K H p ys ∧ ∀ l, H l = none → Q (.ref l) (upd H l (.tup ys))) ∨ (SqT K H p ys ∧ Q (.ref p) H))) := by subst hK; exact call_tuple_of
theorem k_listOf (hK : X.K = K) : CallR X (.type "list") (fun xs H Q => ∃ p ys, xs = [.ref p] ∧ (SqL K H p ys ∨ SqT K H p ys) ∧ ∀ l, H l = none → Q (.ref l) (upd H l (.lst ys))) := by subst hK; exact call_list_of
theorem k_sorted (hK : X.K = K) (hu : X.A.units + 64 < cLine) : CallR X (.builtin "sorted") (rSortedD K) := by subst hK; exact cr_sortedD hu
theorem k_isi (hK : X.K = K) : CallR X (.builtin "isinstance") (rIsi K) := by subst hK; exact call_isi
theorem k_truth {a : Expr} {ta : TE} (hK : X.K = K) (ha : PE X a ta) (he : ∀ whole, isTrue a X.env whole = (do let v ← whole; standAt a.pos; holding [v] (truthy v))) : PT X a (tTru K ta) := by subst hK; exact pt_truth ha he
theorem k_list {tg e : Expr} {t : TE} (hK : X.K = K) (h : PE X e t) : PI X tg e (iList K t) := by subst hK; exact pi_list h
theorem k_tup {tg e : Expr} {t : TE} (hK : X.K = K) (h : PE X e t) : PI X tg e (iTup K t) := by subst hK; exact pi_tup h
theorem k_enum {e : Expr} {ta : TA} {p pos tpos : Pos} {elts : List Expr} {kk : Nat} (hK : X.K = K) (hg : Gl X "enumerate") (hm : X.mg "enumerate" = none) (ha : PA X [e] ta) (hs : starEach [e] X.env = [(false, eval e X.env)] := by rfl) :
    PI X (.Tuple elts kk tpos) (.Call (.Name "enumerate" p) [e] [] pos) (iEnum K ta) := by subst hK; exact pi_enum hg hm ha hs
theorem k_zip {e e2 : Expr} {ta : TA} {p pos tpos : Pos} {elts : List Expr} {kk : Nat} (hK : X.K = K) (hg : Gl X "zip") (hm : X.mg "zip" = none) (ha : PA X [e, e2] ta)
    (hs : starEach [e, e2] X.env = (false, eval e X.env) :: starEach [e2] X.env := by rfl) (hpl : (backTo pos (starEach [e2] X.env)).any (·.1) = false := by rfl) :
    PI X (.Tuple elts kk tpos) (.Call (.Name "zip" p) [e, e2] [] pos) (RZ.iZipA K ta) := by subst hK; exact RZ.pi_zipA hg hm ha hs hpl
end
end DL

/-! DL9: short forms. -/
namespace DL
open PySem L2
open Evl (Ex)
section
variable {K : PySem.W.Frag} {env : Env} {te ta tb : TE} {d x y : D} {ds es : List D}
theorem len_tI (l : List Int) : LenD (tI l) l.length := (List.length_map (as := l) D.int).symm
theorem len_map {α : Type} (e : α → D) (l : List α) : LenD (.lst (l.map e)) l.length := (List.length_map (as := l) e).symm
theorem len_mapT {α : Type} (e : α → D) (l : List α) : LenD (.tup (l.map e)) l.length := (List.length_map (as := l) e).symm
theorem ev_len {n : Nat} (h : Ev te env d) (hl : LenD d n) : Ev (tCB (fun xs H Q => ∃ x n, xs = [x] ∧ LenV K x H n ∧ Q (.int n) H) (tCons te tNil)) env (.int (n : Int)) := ev_cb (ea_cons h ea_nil) (rc_len hl)
theorem ev_tupL (h : Ev te env (.lst ds)) : Ev (tCB (fun xs H Q => ∃ p ys, xs = [.ref p] ∧ ((SqL K H p ys ∧ ∀ l, H l = none → Q (.ref l) (upd H l (.tup ys))) ∨ (SqT K H p ys ∧ Q (.ref p) H))) (tCons te tNil)) env (.tup ds) := ev_cb (ea_cons h ea_nil) rc_tupL
theorem ev_tupT (h : Ev te env (.tup ds)) : Ev (tCB (fun xs H Q => ∃ p ys, xs = [.ref p] ∧ ((SqL K H p ys ∧ ∀ l, H l = none → Q (.ref l) (upd H l (.tup ys))) ∨ (SqT K H p ys ∧ Q (.ref p) H))) (tCons te tNil)) env (.tup ds) := ev_cb (ea_cons h ea_nil) rc_tupT
theorem evN_list (h : Ev te env d) (hd : SeqD d ds) : EvN (tCB (fun xs H Q => ∃ p ys, xs = [.ref p] ∧ (SqL K H p ys ∨ SqT K H p ys) ∧ ∀ l, H l = none → Q (.ref l) (upd H l (.lst ys))) (tCons te tNil)) env (.lst ds) := evN_cb (ea_cons h ea_nil) (rcn_list hd)
theorem ev_sum {ns : List Int} (h : Ev te env (.lst (ns.map D.int))) : Ev (tCB (rSum K) (tCons te tNil)) env (.int ns.sum) := ev_cb (ea_cons h ea_nil) rc_sum
theorem ev_any {bs : List Bool} (h : Ev te env (.lst (bs.map D.bl))) : Ev (tCB (rAny K) (tCons te tNil)) env (.bl (bs.any id)) := ev_cb (ea_cons h ea_nil) rc_any
theorem ev_all {bs : List Bool} (h : Ev te env (.lst (bs.map D.bl))) : Ev (tCB (rAll K) (tCons te tNil)) env (.bl (bs.all id)) := ev_cb (ea_cons h ea_nil) rc_all
theorem ev_add {a b : Int} (ha : Ev ta env (.int a)) (hb : Ev tb env (.int b)) : Ev (tOp (rI0 fun i j => .int (i + j)) ta tb) env (.int (a + b)) := ev_op ha hb ro_int
theorem ev_addN {a b : Nat} (ha : Ev ta env (.int (a : Int))) (hb : Ev tb env (.int (b : Int))) : Ev (tOp (rI0 fun i j => .int (i + j)) ta tb) env (.int ((a + b : Nat) : Int)) := ev_is (ev_op ha hb ro_int) (by rw [Int.natCast_add])
theorem ev_sub {a b : Int} (ha : Ev ta env (.int a)) (hb : Ev tb env (.int b)) : Ev (tOp (rI0 fun i j => .int (i - j)) ta tb) env (.int (a - b)) := ev_op ha hb ro_int
theorem ev_mul {a b : Int} (ha : Ev ta env (.int a)) (hb : Ev tb env (.int b)) (h : CMul a b) : Ev (tOp (rI CMul fun i j => .int (i * j)) ta tb) env (.int (a * b)) := ev_op ha hb (ro_intC h)
theorem ev_eqI {a b : Int} (ha : Ev ta env (.int a)) (hb : Ev tb env (.int b)) : Ev (tOp (rEqD K) ta tb) env (.bl (decide (a = b))) := ev_is (ev_op ha hb (ro_eqD (n := 0) rfl rfl)) (by rw [faith_int.eqv])
theorem ev_neI {a b : Int} (ha : Ev ta env (.int a)) (hb : Ev tb env (.int b)) : Ev (tOp (rNeD K) ta tb) env (.bl (!decide (a = b))) := ev_is (ev_op ha hb (ro_neD (n := 0) rfl rfl)) (by rw [faith_int.eqv])
theorem ev_eqF {α : Type} [DecidableEq α] {e : α → D} (f : Faith e) {n : Nat} {a b : α} (ha : Ev ta env (e a)) (hb : Ev tb env (e b)) (h1 : (e a).pl n = true) (h2 : (e b).pl n = true) (hn : n ≤ 64 := by decide) : Ev (tOp (rEqD K) ta tb) env (.bl (decide (a = b))) := ev_is (ev_op ha hb (ro_eqD h1 h2 hn)) (by rw [f.eqv])
theorem ev_neF {α : Type} [DecidableEq α] {e : α → D} (f : Faith e) {n : Nat} {a b : α} (ha : Ev ta env (e a)) (hb : Ev tb env (e b)) (h1 : (e a).pl n = true) (h2 : (e b).pl n = true) (hn : n ≤ 64 := by decide) : Ev (tOp (rNeD K) ta tb) env (.bl (!decide (a = b))) := ev_is (ev_op ha hb (ro_neD h1 h2 hn)) (by rw [f.eqv])
/-- an item by its place -/
theorem ev_ixL {j : Nat} (ha : Ev ta env (.lst ds)) (hb : Ev tb env (.int (j : Int))) (h : ds[j]? = some d) : Ev (tOp (rIxL K) ta tb) env d := ev_op ha hb (ro_ixL (atI_nat' h))
theorem ev_ixT {j : Nat} (ha : Ev ta env (.tup ds)) (hb : Ev tb env (.int (j : Int))) (h : ds[j]? = some d) : Ev (tOp (rIxT K) ta tb) env d := ev_op ha hb (ro_ixT (atI_nat' h))
theorem get_map {α : Type} {e : α → D} {l : List α} {j : Nat} {a : α} (h : l[j]? = some a) : (l.map e)[j]? = some (e a) := by rw [List.getElem?_map, h] <;> rfl
theorem ev_ixTE {α : Type} {e : α → D} {l : List α} {j : Nat} {a : α} (ha : Ev ta env (.tup (l.map e))) (hb : Ev tb env (.int (j : Int))) (h : l[j]? = some a) : Ev (tOp (rIxT K) ta tb) env (e a) := ev_ixT ha hb (get_map h)
theorem ev_ixLE {α : Type} {e : α → D} {l : List α} {j : Nat} {a : α} (ha : Ev ta env (.lst (l.map e))) (hb : Ev tb env (.int (j : Int))) (h : l[j]? = some a) : Ev (tOp (rIxL K) ta tb) env (e a) := ev_ixL ha hb (get_map h)
theorem ev_ixI {l : List Int} {j : Nat} (ha : Ev ta env (tI l)) (hb : Ev tb env (.int (j : Int))) (h : j < l.length) : Ev (tOp (rIxT K) ta tb) env (.int (l.getD j 0)) := ev_ixTE ha hb (by rw [List.getD_eq_getElem?_getD]; simp [h])
/-- tuples of ints: slices, sums -/
theorem ev_toI {l : List Int} {j : Nat} {th : TE} (h : Ev te env (tI l)) (h2 : Ev th env (.int (j : Int))) : Ev (tSl (rSlA K) te tNoPart (tPart th)) env (tI (l.take j)) :=
  ev_is (ev_slT h eo_none (eo_some h2)) (by rw [cutD_to, ← List.map_take] <;> rfl)
theorem ev_fromI {l : List Int} {j : Nat} {th : TE} (h : Ev te env (tI l)) (h2 : Ev th env (.int (j : Int))) : Ev (tSl (rSlA K) te (tPart th) tNoPart) env (tI (l.drop j)) :=
  ev_is (ev_slT h (eo_some h2) eo_none) (by rw [cutD_from, ← List.map_drop] <;> rfl)
theorem ev_toT {α : Type} {e : α → D} {l : List α} {j : Nat} {th : TE} (h : Ev te env (.tup (l.map e))) (h2 : Ev th env (.int (j : Int))) : Ev (tSl (rSlA K) te tNoPart (tPart th)) env (.tup ((l.take j).map e)) :=
  ev_is (ev_slT h eo_none (eo_some h2)) (by rw [cutD_to, ← List.map_take])
theorem ev_fromT {α : Type} {e : α → D} {l : List α} {j : Nat} {th : TE} (h : Ev te env (.tup (l.map e))) (h2 : Ev th env (.int (j : Int))) : Ev (tSl (rSlA K) te (tPart th) tNoPart) env (.tup ((l.drop j).map e)) :=
  ev_is (ev_slT h (eo_some h2) eo_none) (by rw [cutD_from, ← List.map_drop])
theorem ev_catI {l m : List Int} (ha : Ev ta env (tI l)) (hb : Ev tb env (tI m)) (h : l.length + m.length ≤ 100000) : Ev (tOp (rCatA K) ta tb) env (tI (l ++ m)) :=
  ev_is (ev_op ha hb (ro_catT (by simpa using h))) (by unfold tI; rw [List.map_append])
theorem ev_catT {α : Type} {e : α → D} {l m : List α} (ha : Ev ta env (.tup (l.map e))) (hb : Ev tb env (.tup (m.map e))) (h : l.length + m.length ≤ 100000) : Ev (tOp (rCatA K) ta tb) env (.tup ((l ++ m).map e)) :=
  ev_is (ev_op ha hb (ro_catT (by simpa using h))) (by rw [List.map_append])
theorem evN_catL {α : Type} {e : α → D} {l m : List α} (ha : Ev ta env (.lst (l.map e))) (hb : Ev tb env (.lst (m.map e))) (h : l.length + m.length ≤ 100000) : EvN (tOp rCat ta tb) env (.lst ((l ++ m).map e)) :=
  evN_is (evN_op ha hb (ron_catL (by simpa using h))) (by rw [List.map_append])
/-- (x,) -/
theorem ev_tup1 (h : Ev te env d) : Ev (tTup (tCons te tNil)) env (.tup [d]) := ev_tup (ea_cons h ea_nil) (by show 1 ≤ 100000; decide)
theorem ev_tup1I {a : Int} (h : Ev te env (.int a)) : Ev (tTup (tCons te tNil)) env (tI [a]) := ev_tup1 h
theorem ev_truL {α : Type} {e : α → D} {l : List α} (h : Ev te env (.lst (l.map e))) : EvT (tTru K te) env (!l.isEmpty) := et_tru h (show (!l.isEmpty) = !(l.map e).isEmpty by cases l <;> rfl)
theorem ev_truT {α : Type} {e : α → D} {l : List α} (h : Ev te env (.tup (l.map e))) : EvT (tTru K te) env (!l.isEmpty) := et_tru h (show (!l.isEmpty) = !(l.map e).isEmpty by cases l <;> rfl)
theorem ev_truB {b : Bool} (h : Ev te env (.bl b)) : EvT (tTru K te) env b := et_tru h rfl
/-- a for over the items of a frozen list, by a state of one's own -/
theorem wps_forL {α : Type} {g : TG} {tb : TS} {xs : List α} {e : α → D} {D' : DE} (h : Ev te env (.lst (xs.map e))) (I : Nat → Env → Prop) (h0 : I 0 env)
    (turn : ∀ i x env1, xs[i]? = some x → I i env1 → ∃ env2 vs, wpG g (e x) env1 env2 vs ∧ wpS tb env2 { D' with nx := I (i + 1), ct := I (i + 1), bk := D'.nx })
    (done : ∀ env1, I xs.length env1 → D'.nx env1) : wpS (tFor (iList K te) g tb) env D' := wps_for (ei_list h) I h0 turn done
end
end DL

/-! DL10: tuple * int for 0 as well; any, max of a tuple of ints. -/
namespace DL
open PySem PySem.Spec PyProof.Rows L2
open Evl (Ex)
theorem tuple_mulZ (l : Addr) (items : Array Value) (n : Nat) (dd : Option Addr) (sl : Array (Option Value)) (x : Int) (u : Tok) (c0 : (decide (x < -(2 ^ 63)) || decide (x ≥ 2 ^ 63)) = false) (c1 : (items.isEmpty || x == 1) = false) (c2 : (decide (x ≤ 0) || items.isEmpty) = true) :
    Meets (Builtin.«tuple.__mul__» ⟨[.ref l, .int x u], []⟩) (fun _ R s => s.heap.get? l = some { cls := .type "tuple", dict := dd, data := .seq items n, slots := sl } ∧
      R (.ok (.ret (Value.ref s.heap.objs.size))) { s with heap := s.heap.push { cls := Value.type "tuple", data := Data.seq #[] }, toks := s.toks }) :=
  .of_wp fun prog w A R s h => by
    obtain ⟨hp, g, d, tk, os⟩ := s
    obtain ⟨hl, h⟩ := h
    have f1 := AutoSeq1.idx_int
    wp_walk using wpAny_loadPart' hl
    repeat (first
      | (refine wpAny_ite_false (decide_eq_false (by rw [c0]; exact Bool.false_ne_true)) ?_; wp_walk using wpAny_loadPart' hl)
      | (refine wpAny_ite_false (decide_eq_false (by rw [c1]; exact Bool.false_ne_true)) ?_; wp_walk using wpAny_loadPart' hl)
      | (refine wpAny_ite_true (decide_eq_true c2) ?_; wp_walk using wpAny_loadPart' hl))
    exact ⟨_, rfl, h⟩

/-- t * k, k = 0 or from 2 on -/
def rRepA (K : PySem.W.Frag) : R2 := fun x y H Q => ∃ l k xs, x = .ref l ∧ y = .int k ∧ SqT K H l xs ∧ xs ≠ [] ∧ (k = 0 ∨ 2 ≤ k) ∧ k ≤ 1000 ∧ xs.length ≤ 1000 ∧ ∀ p, H p = none → Q (.ref p) (upd H p (.tup (List.replicate k.toNat xs).flatten))
section
variable {X : Cx}
theorem op_repA : OpR X (binaryOp .Mult) (rRepA X.K) := by
  intro pins s σ H x y v u Q I rx ry h
  obtain ⟨l, k, xs, rfl, rfl, hT, hne, h1, h2, hz, q⟩ := h
  rcases h1 with h1 | h1
  · subst h1
    cases rx
    obtain ⟨t, rfl⟩ := ry
    obtain ⟨its, r, ⟨⟨cls, dd, data, sl⟩, ho, hc, n, hd⟩, hs⟩ := I.tuple hT
    simp only at hc hd
    subst hc hd
    have hle : its.length = xs.length := r.length.symm
    have hn : its ≠ [] := fun e => hne (by
      rw [e] at hle
      exact List.eq_nil_of_length_eq_zero hle.symm)
    have hi : its.toArray.isEmpty = false := by
      cases its with
      | nil => exact absurd rfl hn
      | cons a b => rfl
    have c0 : (decide ((0 : Int) < -(2 ^ 63)) || decide ((0 : Int) ≥ 2 ^ 63)) = false := by decide
    have c1 : (its.toArray.isEmpty || (0 : Int) == 1) = false := by
      rw [hi, Bool.false_or]
      decide
    have c2 : (decide ((0 : Int) ≤ 0) || its.toArray.isEmpty) = true := by
      rw [decide_eq_true (by omega), Bool.true_or]
    refine wpAny_binaryOp_repeat_ref (T := "tuple") (U := "int") (by decide) ⟨_, ho, rfl⟩ (fun s' => typeIs_int s' 0 t) noFill_tuple_mul F.fills_int_mul F.slot_int_rmul repeat_tuple F.slot_int_index.lookup
      (call_meets F.slot_int_rmul (typeIs_int s 0 t) F.entry_int_rmul (F.args_int_rmul_2 _ _) (int_rmul_tuple 0 t l its.toArray n dd sl)
        ⟨ho, rfl, ⟨_, ho, rfl⟩, call_meets F.slot_tuple_mul ⟨_, ho, rfl⟩ F.entry_tuple_mul (F.args_tuple_mul_2 _ _) (tuple_mulZ l its.toArray n dd sl 0 t c0 c1 c2) ⟨ho, ?_⟩⟩)
    refine ⟨.ref s.heap.objs.size, _, I.laid (t' := s.toks) (o := .tup []) (fun b ob q => Heap.get?_push_of_some _ q) (Nat.le_refl _) ?_, rfl, q _ (I.hok.fresh (Nat.le_refl _))⟩
    exact ⟨Nat.zero_le _, [], .nil, IsTup.new _ _⟩
  · exact op_repT pins s σ H _ _ v u Q I rx ry ⟨l, k, xs, rfl, rfl, hT, hne, h1, h2, hz, q⟩
/-! any, max of a tuple of ints -/
theorem truth_ints {prog : Program} {w : World} {A : Around} {ns : List Int} {its : List Value} (e : Vals (ns.map V.int) its) : TruthOf prog w A (fun i v => its.toArray[i]? = some v) (fun i => ns.getD i 0 != 0) := fun i v s Q E hv hq => by
  have hv' : its[i]? = some v := by simpa using hv
  have hl := e.length
  have hi : i < ns.length := by
    have := (List.getElem?_eq_some_iff.mp hv').1
    rw [List.length_map] at hl
    omega
  obtain ⟨u, hu, ru⟩ := e.get (i := i) (x := .int ns[i]) (by rw [List.getElem?_map]; simp [hi])
  rw [hv'] at hu
  cases hu
  obtain ⟨t, rfl⟩ := ru
  refine P.truthy_int ?_
  have hg : ns.getD i 0 = ns[i] := by rw [List.getD_eq_getElem?_getD]; simp [hi]
  have hq' : Q (ns.getD i 0 != 0) s := hq
  rw [hg] at hq'
  exact hq'
theorem any_ints : ∀ ns : List Int, (List.range ns.length).any (fun i => ns.getD i 0 != 0) = ns.any (· != 0)
  | [] => rfl
  | b :: bs => by
    rw [List.length_cons, List.range_succ_eq_map, List.any_cons, List.any_map, List.any_cons, ← any_ints bs]
    all_goals rfl
def rAnyI (K : PySem.W.Frag) : List V → Hp → VK → Prop := fun vs H Q => ∃ (a : Addr) (ns : List Int), vs = [V.ref a] ∧ SqT K H a (ns.map V.int) ∧ Q (.bl (ns.any (· != 0))) H
theorem cr_anyI (hc : X.calm = true) : CallR X (.builtin "any") (rAnyI X.K) := by
  intro pins s σ H vs us Q I r h
  obtain ⟨a, ns, rfl, hs, q⟩ := h
  obtain ⟨its, rv, hl, _⟩ := I.tuple hs
  rw [Vals.ref1 r]
  have ht : s.heap.IsTuple a its.toArray := hl
  have hlt : a < s.heap.objs.size := by obtain ⟨_, e, _⟩ := hl; exact Heap.lt_size e
  refine call_any_walk (wpAny_pyIter_tuple ht ?_)
  refine ⟨_, _, _, _, _, _, _, rfl, Walks.tuple (A := X.A.in1) (I.ok.hd hc) s.heap.objs.size a (Nat.ne_of_lt hlt) its.toArray, ⟨⟨_, Heap.get?_push_size _ rfl, rfl, rfl⟩, ?_⟩, truth_ints rv, fun h' tk hk => ?_⟩
  · obtain ⟨o, e1, e2, e3⟩ := ht
    exact ⟨o, Heap.get?_push_of_some _ e1, e2, e3⟩
  refine ⟨.bl _, H, I.kept fun b o eo => hk b o (fun hmem => ?_) (Heap.get?_push_of_some _ eo), ?_, q⟩
  · rcases List.mem_cons.mp hmem with e1 | hmem
    · exact absurd (e1 ▸ Heap.lt_size eo) (Nat.lt_irrefl _)
    · cases hmem
  · show Value.bool _ = Value.bool _
    rw [← any_ints, List.size_toArray, ← rv.length, List.length_map]
def rMaxT (K : PySem.W.Frag) : List V → Hp → VK → Prop := fun vs H Q => ∃ (a : Addr) (n : Int) (ns : List Int), vs = [V.ref a] ∧ SqT K H a ((n :: ns).map V.int) ∧ Q (.int (ns.foldl max n)) H
theorem dps_ints {K : PySem.W.Frag} {H : Hp} : ∀ ns : List Int, DpAll K H (ns.map V.int) (ns.map PyData.int)
  | [] => .nil
  | n :: ns => .cons (.int n) (dps_ints ns)
theorem depth_ints : ∀ ns : List Int, PyData.depthAll (ns.map PyData.int) = 0
  | [] => rfl
  | n :: ns => by
    show max (PyData.int n).depth (PyData.depthAll (ns.map PyData.int)) = 0
    rw [depth_ints ns] <;> rfl
theorem cr_maxT (hc : X.calm = true) (hu : X.A.units + 64 < cLine) : CallR X (.builtin "max") (rMaxT X.K) := by
  intro pins s σ H vs us Q I r h
  obtain ⟨a, n, ns, rfl, hs, q⟩ := h
  obtain ⟨its, rv, hl, _⟩ := I.tuple hs
  rw [Vals.ref1 r]
  have ht : s.heap.IsTuple a its.toArray := hl
  obtain ⟨as, hr⟩ := Dp.readsAll I ((n :: ns).map PyData.int) _ its (dps_ints (n :: ns)) rv
  refine PySem.W.max_tuple_data (I.ok.hd hc) ht (x := .int n) (xs := ns.map PyData.int) (by simpa using hr) ⟨fun x hx y hy => ?_, fun x hx => ?_⟩ ?_ fun i v h' tk bs hv rd hk => ?_
  · obtain ⟨a, _, rfl⟩ := List.mem_map.mp (show x ∈ (n :: ns).map PyData.int from hx)
    obtain ⟨b, _, rfl⟩ := List.mem_map.mp (show y ∈ (n :: ns).map PyData.int from hy)
    rfl
  · obtain ⟨a, _, rfl⟩ := List.mem_map.mp (show x ∈ (n :: ns).map PyData.int from hx)
    exact fun z => nomatch z
  · have := depth_ints (n :: ns)
    show X.A.units + 1 + PyData.depthAll ((n :: ns).map PyData.int) < cLine
    rw [this]
    omega
  · rw [PySem.W.maxD_ints] at rd
    cases rd with
    | int i t => exact ⟨.int _, H, I.kept hk, ⟨t, rfl⟩, q⟩
end
section
variable {X : Cx} {K : PySem.W.Frag}
theorem k_repA (hK : X.K = K) : OpR X (binaryOp .Mult) (rRepA K) := by subst hK; exact op_repA
theorem k_anyI (hK : X.K = K) (hc : X.calm = true) : CallR X (.builtin "any") (rAnyI K) := by subst hK; exact cr_anyI hc
theorem k_maxT (hK : X.K = K) (hc : X.calm = true) (hu : X.A.units + 64 < cLine) : CallR X (.builtin "max") (rMaxT K) := by subst hK; exact cr_maxT hc hu
end
section
variable {K : PySem.W.Frag} {env : Env} {te ta tb : TE} {d x y : D} {ds es : List D}
theorem RpA.flat {F : Hp} {vs : List V} (r : RpA F vs ds) : ∀ n : Nat, RpA F (List.replicate n vs).flatten (List.replicate n ds).flatten
  | 0 => .nil
  | n + 1 => by
    rw [List.replicate_succ, List.replicate_succ, List.flatten_cons, List.flatten_cons]
    exact r.append (RpA.flat r n)
theorem ev_repT {k : Int} (ha : Ev ta env (.tup ds)) (hb : Ev tb env (.int k)) (hne : ds ≠ []) (hk : k = 0 ∨ 2 ≤ k) (h2 : k ≤ 1000) (h3 : ds.length ≤ 1000) : Ev (tOp (rRepA K) ta tb) env (.tup (List.replicate k.toNat ds).flatten) :=
  ev_op ha hb fun F H v w e rv rw Q q => by
    cases rv with
    | @tup a vs _ ea r =>
      cases rw
      have hl := r.length
      refine ⟨a, k, vs, rfl, rfl, .inl (.inl (e _ _ ea)), fun z => ?_, hk, h2, by rw [hl]; exact h3, fun p hp => q _ _ _ (Gr.new e hp) (.tup upd_same ((r.flat _).mono (Ex.new (Evl.fresh_back e hp))))⟩
      subst z
      cases r
      exact hne rfl
/-- (0,) * n -/
theorem flat_one {α : Type} (a : α) : ∀ n : Nat, (List.replicate n [a]).flatten = List.replicate n a
  | 0 => rfl
  | n + 1 => by rw [List.replicate_succ, List.flatten_cons, flat_one a n, List.replicate_succ] <;> rfl
theorem ev_zeros {k : Nat} {z : Int} (ha : Ev ta env (.int z)) (hb : Ev tb env (.int (k : Int))) (hk : k = 0 ∨ 2 ≤ k) (h2 : k ≤ 1000) : Ev (tOp (rRepA K) (tTup (tCons ta tNil)) tb) env (tI (List.replicate k z)) :=
  ev_is (ev_repT (ev_tup1 ha) hb (by simp) (by omega) (by omega) (by simp)) (by
    rw [Int.toNat_natCast, flat_one]
    show _ = D.tup _
    rw [List.map_replicate])
theorem ev_anyI {ns : List Int} (h : Ev te env (tI ns)) : Ev (tCB (rAnyI K) (tCons te tNil)) env (.bl (ns.any (· != 0))) := ev_cb (ea_cons h ea_nil) fun F H vs e rv Q q => by
  cases rv with
  | cons r rn =>
    cases rn
    cases r with
    | tup h1 r =>
      have := r.ints_eq
      subst this
      exact ⟨_, ns, rfl, .inl (.inl (e _ _ h1)), q _ F H (Gr.refl e) (.bl _)⟩
theorem ev_maxT {ns : List Int} (h : Ev te env (tI ns)) (hn : ns ≠ []) : Ev (tCB (rMaxT K) (tCons te tNil)) env (.int (maxL ns)) := ev_cb (ea_cons h ea_nil) fun F H vs e rv Q q => by
  cases rv with
  | cons r rn =>
    cases rn
    cases r with
    | tup h1 r =>
      have := r.ints_eq
      subst this
      cases ns with
      | nil => exact (hn rfl).elim
      | cons n ns => exact ⟨_, n, ns, rfl, .inl (.inl (e _ _ h1)), q _ F H (Gr.refl e) (.int _)⟩
end
end DL

/-! DL11: a, b = x, y without a tuple; more short forms. -/
namespace DL
open PySem L2
section
variable {K : PySem.W.Frag} {env : Env} {te ta tb : TE} {d x y : D} {ds es : List D} {D' : DE}
theorem wps_par {i j : Nat} {ta : TA} (h : EvA ta env [x, y]) (k : D'.nx ((env.set i (.fz x)).set j (.fz y))) : wpS (tPar i j ta) env D' := fun B N F H σ R De l => h B N F H σ R _ fun vs F1 H1 g1 r1 => by
  cases r1 with
  | cons ra rn =>
    cases rn with
    | cons rb rn =>
      cases rn
      exact ⟨_, _, rfl, l.nx F1 H1 _ _ g1.ff (((R.grow g1).set ra).set rb) k⟩
theorem ev_max {ns : List Int} (h : Ev te env (lI ns)) (hn : ns ≠ []) : Ev (tCB (rMax K) (tCons te tNil)) env (.int (maxL ns)) := ev_cb (ea_cons h ea_nil) (rc_max (d := lI ns) rfl rfl hn)
theorem ev_min {ns : List Int} (h : Ev te env (lI ns)) (hn : ns ≠ []) : Ev (tCB (rMin K) (tCons te tNil)) env (.int (minL ns)) := ev_cb (ea_cons h ea_nil) (rc_min hn)
theorem ev_neg {a : Int} (h : Ev te env (.int a)) : Ev (tUn (rU fun i => .int (-i)) te) env (.int (-a)) := ev_un h ru_neg
theorem ev_fdiv {a b : Int} (ha : Ev ta env (.int a)) (hb : Ev tb env (.int b)) (h : CDivN a b) : Ev (tOp (rI CDivN fun i j => .int (i.fdiv j)) ta tb) env (.int (a.fdiv b)) := ev_op ha hb (ro_intC h)
theorem ev_fmod {a b : Int} (ha : Ev ta env (.int a)) (hb : Ev tb env (.int b)) (h : b ≠ 0) : Ev (tOp (rI (fun _ j => j ≠ 0) fun i j => .int (i.fmod j)) ta tb) env (.int (a.fmod b)) := ev_op ha hb (ro_intC h)
/-- a tuple of tuples of ints -/
def tR (ws : List (List Int)) : D := .tup (ws.map tI)
theorem len_tR (l : List (List Int)) : LenD (tR l) l.length := (List.length_map (as := l) tI).symm
theorem len_lI (l : List Int) : LenD (lI l) l.length := (List.length_map (as := l) D.int).symm
theorem pl_tR (ws : List (List Int)) : (tR ws).pl 2 = true := pl_tup (n := 1) pl_tI ws
theorem ev_list_map {α : Type} {e : α → D} {l : List α} (h : Ev te env (.lst (l.map e))) : EvI (iList K te) env (l.map e) := ei_list h
end
end DL

/-! DL12: for x in zip(*xs), x one name. -/
namespace DL
open PySem PySem.Spec PyProof.Rows L2
open Evl (Ex)
section
variable {prog : Program} {w : World} {A : Around} {E : Value → Shared → Prop} {s : Shared}
/-- a zip in any state between turns -/
def ZipAny (h : Heap) (z TI TO : Addr) : Prop := ∃ (F : Value) (f : Bool), (F = .none ∨ ∃ T : Addr, F = rawInt T) ∧
  h.get? z = some { cls := .type "zip", dict := none, data := .fields #[F, .bool f, .bool false, .ref TI, .ref TO], slots := #[] }
theorem zip_free {z TI TO : Addr} {Q : Bool → Shared → Prop} (hz : ZipAny s.heap z TI TO) (h : ∀ b h', ZipAny h' z TI TO → Heap.SameBut z s.heap h' → Q b { s with heap := h' }) :
    wpAny (model prog w) A (Builtin.SmallTypes.ownedTupleIsFree (.ref z)) Q E s := by
  obtain ⟨F, f, hF, hz⟩ := hz
  have same : Q true s := h true s.heap ⟨F, f, hF, hz⟩ (Heap.SameBut.refl _ _)
  rcases hF with rfl | ⟨T, rfl⟩
  · unfold Builtin.SmallTypes.ownedTupleIsFree
    exact wpAny_bind (wpAny_field hz rfl (x := .none) rfl (wpAny_pure same))
  · cases e : s.heap.get? T with
    | some oT => exact wpAny_tupleHeld_zip hz e fun h' hz' hs' => h false h' ⟨_, _, .inr ⟨T, rfl⟩, hz'⟩ hs'
    | none =>
      unfold Builtin.SmallTypes.ownedTupleIsFree
      refine wpAny_bind (wpAny_field hz rfl (x := rawInt T) rfl ?_)
      show wpAny _ _ (loadIfAlive ((T : Int).toNat) >>= _) _ _ _
      rw [Int.toNat_natCast]
      have dead : ∀ {R : Option Obj → Shared → Prop}, R none s → wpAny (model prog w) A (loadIfAlive T) R E s := fun {R} hr _ _ _ => by
        have h' : R (s.heap.get? T) s := by rw [e]; exact hr
        exact h'
      exact wpAny_bind (dead (wpAny_pure same))
/-- the cells of the zip lie apart -/
structure ZSep (z TI TO : Addr) (its as : List Addr) : Prop where
  TIz : TI ≠ z
  TOz : TO ≠ z
  TITO : TI ≠ TO
  zi : z ∉ its
  TIi : TI ∉ its
  TOi : TO ∉ its
  nd : its.Nodup
  az : z ∉ as
  aTO : TO ∉ as
  ai : ∀ a ∈ as, a ∉ its
def TupAt (h : Heap) (T : Addr) (vs : List Value) : Prop := h.get? T = some { cls := .type "tuple", data := .seq vs.toArray }
/-- what the iterators stand at when k of them have been drawn at turn i -/
def Its (h : Heap) (its as : List Addr) (k i : Nat) : Prop := ∀ j it a, its[j]? = some it → as[j]? = some a → h.IsTupleIter it a (if j < k then i + 1 else i)
theorem Its.draw {h h' : Heap} {its as : List Addr} {k i : Nat} {it a : Addr} (st : Its h its as k i) (nd : its.Nodup) (e : its[k]? = some it) (ea : as[k]? = some a) (n : h'.IsTupleIter it a (i + 1)) (sb : Heap.SameBut it h h') : Its h' its as (k + 1) i := fun j it' a' e' ea' => by
  by_cases c : j = k
  · subst c
    rw [e] at e'
    rw [ea] at ea'
    cases e'
    cases ea'
    rw [if_pos (Nat.lt_succ_self _)]
    exact n
  · have q := st j it' a' e' ea'
    have e2 : (if j < k + 1 then i + 1 else i) = if j < k then i + 1 else i := by
      by_cases c2 : j < k
      · rw [if_pos c2, if_pos (by omega)]
      · rw [if_neg c2, if_neg (by omega)]
    rw [e2]
    refine q.extBut sb.extBut fun z => ?_
    subst z
    have h1 := (List.getElem?_eq_some_iff.mp e).1
    have h2 := (List.getElem?_eq_some_iff.mp e').1
    have := (List.getElem?_inj h1 nd).mp (e.trans e'.symm)
    exact c this.symm
theorem Its.same {h h' : Heap} {x : Addr} {its as : List Addr} {k i : Nat} (st : Its h its as k i) (sb : Heap.ExtBut x h h') (hx : x ∉ its) : Its h' its as k i := fun j it a e ea =>
  (st j it a e ea).extBut sb fun z => hx (z ▸ List.mem_of_getElem? e)
theorem drop_cons {α : Type} {l : List α} {k : Nat} {x : α} {rest : List α} (h : x :: rest = l.drop k) : l[k]? = some x ∧ rest = l.drop (k + 1) := by
  have h1 : (l.drop k)[0]? = some x := by rw [← h] <;> rfl
  rw [List.getElem?_drop] at h1
  refine ⟨by simpa using h1, ?_⟩
  have : (l.drop k).tail = l.drop (k + 1) := List.tail_drop ..
  rw [← this, ← h] <;> rfl
theorem zipN_item {z TI TO : Addr} {its as : List Addr} {vals : List Value} {i : Nat} {Q : Value → Shared → Prop} (S : ZSep z TI TO its as) (hz : ZipAny s.heap z TI TO) (hTI : TupAt s.heap TI (its.map Value.ref)) (hTO : ∃ vs : List Value, vs.length = its.length ∧ TupAt s.heap TO vs)
    (hit : Its s.heap its as 0 i) (hval : ∀ (j : Nat) (a : Addr), as[j]? = some a → ∃ (items : Array Value) (x : Value), s.heap.IsTuple a items ∧ vals[j]? = some x ∧ items[i]? = some x) (l1 : as.length = its.length) (l2 : vals.length = its.length) (hne : its ≠ []) (hsz : its.length ≤ 1000)
    (hQ : ∀ h', ZipAny h' z TI TO → TupAt h' TI (its.map Value.ref) → (∃ vs : List Value, vs.length = its.length ∧ TupAt h' TO vs) → Its h' its as 0 (i + 1) → TupAt h' s.heap.objs.size vals →
      (∀ c o, c ≠ z → c ≠ TO → c ∉ its → s.heap.get? c = some o → h'.get? c = some o) → Q (.ref s.heap.objs.size) { s with heap := h' }) :
    wpAny (model prog w) A (Builtin.«zip.__next__» ⟨[.ref z], []⟩) (fun fin s' => ∃ v, fin = .done (.ret v) ∧ Q v s') E s := by
  obtain ⟨F, f, hF, hz0⟩ := id hz
  show wpAny _ _ (field (.ref z) 2 >>= _) _ _ _
  refine wpAny_bind (wpAny_field hz0 rfl (x := .bool false) rfl ?_)
  show wpAny _ _ (field (.ref z) 3 >>= _) _ _ _
  refine wpAny_bind (wpAny_field hz0 rfl (x := .ref TI) rfl ?_)
  refine wpAny_bind (wpAny_seqItems hTI rfl ?_)
  have hemp : (its.map Value.ref).toArray.isEmpty = false := by
    cases its with
    | nil => exact (hne rfl).elim
    | cons a b => rfl
  show wpAny _ _ (if (its.map Value.ref).toArray.isEmpty = true then _ else _) _ _ _
  rw [hemp, if_neg Bool.false_ne_true]
  refine wpAny_bind (zip_free hz fun b g1 hz1 hs1 => ?_)
  have hit1 : Its g1 its as 0 i := hit.same hs1.extBut S.zi
  have hTI1 : TupAt g1 TI (its.map Value.ref) := hs1.extBut _ _ S.TIz hTI
  obtain ⟨vs, hvl, hTOo⟩ := hTO
  have hTO1 : TupAt g1 TO vs := hs1.extBut _ _ S.TOz hTOo
  have hval1 : ∀ (j : Nat) (a : Addr), as[j]? = some a → ∃ (items : Array Value) (x : Value), g1.IsTuple a items ∧ vals[j]? = some x ∧ items[i]? = some x := fun j a e => by
    obtain ⟨items, x, h1, h2, h3⟩ := hval j a e
    exact ⟨items, x, h1.extBut hs1.extBut (fun q => S.az (q ▸ List.mem_of_getElem? e)), h2, h3⟩
  have hk1 : ∀ c o, c ≠ z → s.heap.get? c = some o → g1.get? c = some o := fun c o q e => hs1.extBut _ _ q e
  have hsize : g1.objs.size = s.heap.objs.size := hs1.1
  cases b with
  | false =>
    simp only [Bool.false_eq_true, if_false]
    refine wpAny_bind ?_
    rw [← Array.forIn_toList]
    refine wpAny_forIn_list _ (fun rest b s' => ∃ k items h, rest = (its.map Value.ref).drop k ∧ b = ⟨none, items⟩ ∧ s' = { s with heap := h } ∧ k ≤ its.length ∧ items.toList = vals.take k ∧ h.objs.size = g1.objs.size ∧ Its h its as k i ∧
      (∀ c o, c ∉ its → g1.get? c = some o → h.get? c = some o)) _ ?_ ?_ _ _ ⟨0, #[], g1, by simp, rfl, rfl, Nat.zero_le _, by simp, rfl, hit1, fun _ _ _ e => e⟩
    · rintro x rest b s' ⟨k, items, h, hr, rfl, rfl, hk, hi, hs, hst, hkeep⟩
      obtain ⟨hx, hr'⟩ := drop_cons hr
      rw [List.getElem?_map] at hx
      obtain ⟨it, e, rfl⟩ := Option.map_eq_some_iff.mp hx
      have hkl : k < its.length := (List.getElem?_eq_some_iff.mp e).1
      have ea : as[k]? = some as[k] := by simp [show k < as.length by omega]
      obtain ⟨its0, y, h1, h2, h3⟩ := hval1 k _ ea
      have hs0 := hst k it _ e ea
      rw [if_neg (Nat.lt_irrefl _)] at hs0
      have hane : as[k] ∉ its := S.ai _ (List.mem_of_getElem? ea)
      refine wpAny_bind (wpAny_holding ?_)
      show wpAny _ _ (Builtin.SmallTypes.nextOf (.ref it) >>= _) _ _ ({ s with heap := h } : Shared)
      refine wpAny_bind (wpAny_nextOf_tuple_item (s := { s with heap := h }) hs0 (h1.at fun o q => hkeep _ o hane q) h3 fun h' hit' hs' => wpAny_pure ?_)
      refine wpAny_pure ?_
      refine ⟨k + 1, items.push y, h', by rw [hr'], rfl, rfl, hkl, ?_, hs'.1.trans hs, hst.draw S.nd e ea hit' hs', fun c o hc q => hs'.extBut _ _ (fun z => hc (z ▸ List.mem_of_getElem? e)) (hkeep c o hc q)⟩
      rw [Array.toList_push, hi, List.take_succ, h2] <;> rfl
    · rintro b s' ⟨k, items, h, hr, rfl, rfl, hk, hi, hs, hst, hkeep⟩
      have hkn : k = its.length := by
        have := congrArg List.length hr
        rw [List.length_drop, List.length_map, List.length_nil] at this
        omega
      subst hkn
      rw [← l2, List.take_length] at hi
      show wpAny _ _ (newTuple items.toList >>= _) _ _ ({ s with heap := h } : Shared)
      rw [hi]
      refine wpAny_bind (wpAny_newTuple (s := { s with heap := h }) ?_ (Nat.le_trans (by omega) (show 1000 ≤ sizeLine by decide)))
      refine wpAny_pure ⟨_, rfl, ?_⟩
      have hsz2 : h.objs.size = s.heap.objs.size := hs.trans hsize
      show Q (.ref h.objs.size) { s with heap := h.push _ }
      have hT : TupAt (h.push { cls := Value.type "tuple", data := Data.seq vals.toArray }) h.objs.size vals := Heap.get?_push_size _ rfl
      rw [hsz2] at hT ⊢
      have up : ∀ c o, h.get? c = some o → (h.push { cls := Value.type "tuple", data := Data.seq vals.toArray }).get? c = some o := fun c o q => Heap.get?_push_of_some _ q
      obtain ⟨F1, f1, hF1, hz1'⟩ := hz1
      refine hQ _ ⟨F1, f1, hF1, up _ _ (hkeep _ _ S.zi hz1')⟩ (up _ _ (hkeep _ _ S.TIi hTI1)) ⟨vs, hvl, up _ _ (hkeep _ _ S.TOi hTO1)⟩ (fun j it a e ea => ?_) hT fun c o c1 c2 c3 q => up _ _ (hkeep c o c3 (hk1 c o c1 q))
      have hj := (List.getElem?_eq_some_iff.mp e).1
      have q := hst j it a e ea
      rw [if_pos hj] at q
      rw [if_neg (Nat.not_lt_zero j)]
      exact q.at fun o z => up _ _ z
  | true =>
    simp only [if_true]
    refine wpAny_bind (wpAny_rule ?_)
    obtain ⟨F1, f1, hF1, hz1'⟩ := hz1
    refine wpAny_bind (wpAny_field hz1' rfl (x := .ref TO) rfl ?_)
    refine wpAny_bind (wpAny_setField_rec (s := { s with heap := g1 }) hz1' (by simp) fun g2 hz2 hs2 => ?_)
    replace hs2 : Heap.SameBut z g1 g2 := hs2
    have hit2 : Its g2 its as 0 i := hit1.same hs2.extBut S.zi
    have hTI2 : TupAt g2 TI (its.map Value.ref) := hs2.extBut _ _ S.TIz hTI1
    have hTO2 : TupAt g2 TO vs := hs2.extBut _ _ S.TOz hTO1
    have hz2' : g2.get? z = some { cls := .type "zip", dict := none, data := .fields #[.ellipsis, .bool f1, .bool false, .ref TI, .ref TO], slots := #[] } := hz2
    refine wpAny_bind ?_
    refine wpAny_forIn_list _ (fun rest b s' => ∃ k h arr, rest = ((its.map Value.ref).zipIdx).drop k ∧ b = ⟨none, ⟨⟩⟩ ∧ s' = { s with heap := h } ∧ k ≤ its.length ∧ h.objs.size = g2.objs.size ∧ TupAt h TO arr ∧ arr = vals.take k ++ vs.drop k ∧ Its h its as k i ∧
      (∀ c o, c ∉ its → c ≠ TO → g2.get? c = some o → h.get? c = some o)) _ ?_ ?_ _ _ ⟨0, g2, vs, by simp, rfl, rfl, Nat.zero_le _, rfl, hTO2, by simp, hit2, fun _ _ _ _ e => e⟩
    · rintro x rest b s' ⟨k, h, arr, hr, rfl, rfl, hk, hs, hTOa, harr, hst, hkeep⟩
      obtain ⟨hx, hr'⟩ := drop_cons hr
      rw [List.getElem?_zipIdx, List.getElem?_map] at hx
      obtain ⟨v0, e0, rfl⟩ := Option.map_eq_some_iff.mp hx
      obtain ⟨it, e, rfl⟩ := Option.map_eq_some_iff.mp e0
      have hkl : k < its.length := (List.getElem?_eq_some_iff.mp e).1
      have ea : as[k]? = some as[k] := by simp [show k < as.length by omega]
      obtain ⟨its0, y, h1, h2, h3⟩ := hval1 k _ ea
      have hs0 := hst k it _ e ea
      rw [if_neg (Nat.lt_irrefl _)] at hs0
      have hane : as[k] ∉ its := S.ai _ (List.mem_of_getElem? ea)
      have haTO : as[k] ≠ TO := fun z => S.aTO (z ▸ List.mem_of_getElem? ea)
      have haz : as[k] ≠ z := fun z => S.az (z ▸ List.mem_of_getElem? ea)
      have hiTO : TO ≠ it := fun z => S.TOi (z ▸ List.mem_of_getElem? e)
      have hal : arr.length = its.length := by rw [harr, List.length_append, List.length_take, List.length_drop]; omega
      refine wpAny_bind (wpAny_onRaise ?_)
      show wpAny _ _ (Builtin.SmallTypes.nextOf (.ref it) >>= _) _ _ ({ s with heap := h } : Shared)
      refine wpAny_bind (wpAny_nextOf_tuple_item (s := { s with heap := h }) hs0 (h1.at fun o q => hkeep _ o hane haTO (hs2.extBut _ _ haz q)) h3 fun h' hit' hs' => wpAny_pure ?_)
      have hTO' : TupAt h' TO arr := hs'.extBut _ _ hiTO hTOa
      refine wpAny_bind (wpAny_seqItems (s := { s with heap := h' }) hTO' rfl ?_)
      show wpAny _ _ (updateSeq TO (·.setIfInBounds (0 + k) y) >>= _) _ _ _
      rw [Nat.zero_add]
      refine wpAny_bind (wpAny_updateSeq (s := { s with heap := h' }) hTO' rfl ?_ (by rw [List.size_toArray, hal]; exact Nat.le_trans hsz (by decide)) (by rw [Array.size_setIfInBounds, List.size_toArray, hal]; exact Nat.le_trans hsz (by decide)))
      refine wpAny_bind (wpAny_letGo (wpAny_pure ?_))
      have sb : Heap.SameBut TO h' (h'.update TO (Obj.mapSeq (·.setIfInBounds k y))) := Heap.SameBut.update ..
      refine ⟨k + 1, h'.update TO (Obj.mapSeq (·.setIfInBounds k y)), arr.set k y, by rw [hr'], rfl, rfl, hkl, sb.1.trans (hs'.1.trans hs), ?_, ?_, (hst.draw S.nd e ea hit' hs').same sb.extBut S.TOi, fun c o hc hcT q => sb.extBut _ _ hcT (hs'.extBut _ _ (fun z => hc (z ▸ List.mem_of_getElem? e)) (hkeep c o hc hcT q))⟩
      · show Heap.get? _ TO = _
        rw [Heap.get?_update_self _ hTO' rfl]
        simp [Obj.mapSeq]
      · rw [harr, List.take_succ, h2, List.set_append_right _ _ (by rw [List.length_take]; omega), List.length_take, show k - min k vals.length = 0 by omega]
        have hv : vs.drop k = vs[k] :: vs.drop (k + 1) := List.drop_eq_getElem_cons (by omega)
        rw [hv, List.set_cons_zero, List.append_assoc]
        rfl
    · rintro b s' ⟨k, h, arr, hr, rfl, rfl, hk, hs, hTOa, harr, hst, hkeep⟩
      have hkn : k = its.length := by
        have := congrArg List.length hr
        rw [List.length_drop, List.length_zipIdx, List.length_map, List.length_nil] at this
        omega
      subst hkn
      have harr' : arr = vals := by rw [harr, ← l2, List.take_length, List.drop_eq_nil_of_le (by omega), List.append_nil]
      subst harr'
      refine wpAny_bind (wpAny_seqItems (s := { s with heap := h }) hTOa rfl ?_)
      show wpAny _ _ (newTuple arr.toArray.toList >>= _) _ _ ({ s with heap := h } : Shared)
      rw [List.toList_toArray]
      refine wpAny_bind (wpAny_newTuple (s := { s with heap := h }) ?_ (Nat.le_trans (by omega) (show 1000 ≤ sizeLine by decide)))
      have hsz2 : h.objs.size = s.heap.objs.size := hs.trans (hs2.1.trans hsize)
      have up : ∀ c o, h.get? c = some o → (h.push { cls := Value.type "tuple", data := Data.seq arr.toArray }).get? c = some o := fun c o q => Heap.get?_push_of_some _ q
      have hzp := up _ _ (hkeep _ _ S.zi S.TOz.symm hz2')
      have hzlt : z < h.objs.size := Heap.lt_size (hkeep _ _ S.zi S.TOz.symm hz2')
      have hTp : TupAt (h.push { cls := Value.type "tuple", data := Data.seq arr.toArray }) h.objs.size arr := Heap.get?_push_size _ rfl
      show wpAny _ _ (Builtin.SmallTypes.ownedTupleHandOut (.ref z) (.ref h.objs.size) >>= _) _ _ ({ s with heap := h.push { cls := Value.type "tuple", data := Data.seq arr.toArray } } : Shared)
      refine wpAny_bind ?_
      unfold Builtin.SmallTypes.ownedTupleHandOut
      refine wpAny_bind (wpAny_setField_rec (s := { s with heap := h.push { cls := Value.type "tuple", data := Data.seq arr.toArray } }) hzp (by simp) fun h7 hz7 hs7 => ?_)
      refine wpAny_setField_rec (s := { s with heap := h7 }) hz7 (by simp) fun h8 hz8 hs8 => ?_
      replace hs7 : Heap.SameBut z (h.push { cls := Value.type "tuple", data := Data.seq arr.toArray }) h7 := hs7
      replace hs8 : Heap.SameBut z h7 h8 := hs8
      have hz8' : h8.get? z = some { cls := .type "zip", dict := none, data := .fields #[rawInt h.objs.size, .bool false, .bool false, .ref TI, .ref TO], slots := #[] } := hz8
      have up8 : ∀ c o, c ≠ z → h.get? c = some o → h8.get? c = some o := fun c o c1 q => hs8.extBut _ _ c1 (hs7.extBut _ _ c1 (up _ _ q))
      have hT8 : TupAt h8 h.objs.size arr := hs8.extBut _ _ (Nat.ne_of_gt hzlt) (hs7.extBut _ _ (Nat.ne_of_gt hzlt) hTp)
      refine wpAny_pure ⟨_, rfl, ?_⟩
      show Q (.ref h.objs.size) { s with heap := h8 }
      rw [hsz2] at hT8 ⊢
      refine hQ _ ⟨_, _, .inr ⟨_, rfl⟩, hz8'⟩ (up8 _ _ S.TIz (hkeep _ _ S.TIi S.TITO hTI2)) ⟨arr, l2, up8 _ _ S.TOz hTOa⟩ (fun j it a e ea => ?_) hT8 fun c o c1 c2 c3 q => up8 _ _ c1 (hkeep c o c3 c2 (hs2.extBut _ _ c1 (hk1 c o c1 q)))
      have hj := (List.getElem?_eq_some_iff.mp e).1
      have q := hst j it a e ea
      rw [if_pos hj] at q
      rw [if_neg (Nat.not_lt_zero j)]
      exact q.at fun o z' => up8 _ _ (fun y => S.zi (y ▸ List.mem_of_getElem? e)) z'
theorem zipN_end {z TI TO it0 a0 : Addr} {its as : List Addr} {items : Array Value} {i : Nat} {Q : Fin → Shared → Prop} (hh : A.handled = none) (S : ZSep z TI TO (it0 :: its) (a0 :: as)) (hz : ZipAny s.heap z TI TO) (hTI : TupAt s.heap TI ((it0 :: its).map Value.ref))
    (hTO : ∃ vs : List Value, vs.length = (it0 :: its).length ∧ TupAt s.heap TO vs) (hit : Its s.heap (it0 :: its) (a0 :: as) 0 i) (ha : s.heap.IsTuple a0 items) (hi : items[i]? = none)
    (hE : ∀ h' e, (∀ c o, c ≠ z → c ≠ TO → c ∉ it0 :: its → s.heap.get? c = some o → h'.get? c = some o) → (∃ o, h'.get? e = some o ∧ o.cls = .type "StopIteration") → E (.ref e) { s with heap := h' }) :
    wpAny (model prog w) A (Builtin.«zip.__next__» ⟨[.ref z], []⟩) Q E s := by
  obtain ⟨F, f, hF, hz0⟩ := id hz
  show wpAny _ _ (field (.ref z) 2 >>= _) _ _ _
  refine wpAny_bind (wpAny_field hz0 rfl (x := .bool false) rfl ?_)
  show wpAny _ _ (field (.ref z) 3 >>= _) _ _ _
  refine wpAny_bind (wpAny_field hz0 rfl (x := .ref TI) rfl ?_)
  refine wpAny_bind (wpAny_seqItems hTI rfl ?_)
  have hemp : ((it0 :: its).map Value.ref).toArray.isEmpty = false := rfl
  show wpAny _ _ (if ((it0 :: its).map Value.ref).toArray.isEmpty = true then _ else _) _ _ _
  rw [hemp, if_neg Bool.false_ne_true]
  have hzi : z ≠ it0 := fun q => S.zi (by rw [q]; exact List.mem_cons_self)
  have hz_a : a0 ≠ z := fun q => S.az (by rw [q]; exact List.mem_cons_self)
  have h0 : s.heap.IsTupleIter it0 a0 i := by
    have := hit 0 it0 a0 rfl rfl
    rwa [if_neg (Nat.not_lt_zero 0)] at this
  refine wpAny_bind (zip_free hz fun b g1 hz1 hs1 => ?_)
  have h01 : g1.IsTupleIter it0 a0 i := h0.extBut hs1.extBut hzi.symm
  have ha1 : g1.IsTuple a0 items := ha.extBut hs1.extBut hz_a
  cases b with
  | false =>
    simp only [Bool.false_eq_true, if_false]
    refine wpAny_bind ?_
    rw [← Array.forIn_toList]
    show wpAny _ _ (forIn (Value.ref it0 :: its.map Value.ref) _ _) _ _ _
    rw [List.forIn_cons]
    refine wpAny_bind (wpAny_bind (wpAny_holding ?_))
    show wpAny _ _ (Builtin.SmallTypes.nextOf (.ref it0) >>= _) _ _ ({ s with heap := g1 } : Shared)
    refine wpAny_bind (wpAny_nextOf_tuple_end (s := { s with heap := g1 }) hh h01 ha1 hi fun h' e sb he => ?_)
    exact hE h' e (fun c o c1 c2 c3 q => sb _ _ (fun y => c3 (y ▸ List.mem_cons_self)) (hs1.extBut _ _ c1 q)) he
  | true =>
    simp only [if_true]
    refine wpAny_bind (wpAny_rule ?_)
    obtain ⟨F1, f1, hF1, hz1'⟩ := hz1
    refine wpAny_bind (wpAny_field hz1' rfl (x := .ref TO) rfl ?_)
    refine wpAny_bind (wpAny_setField_rec (s := { s with heap := g1 }) hz1' (by simp) fun g2 hz2 hs2 => ?_)
    replace hs2 : Heap.SameBut z g1 g2 := hs2
    have hz2' : g2.get? z = some { cls := .type "zip", dict := none, data := .fields #[.ellipsis, .bool f1, .bool false, .ref TI, .ref TO], slots := #[] } := hz2
    refine wpAny_bind ?_
    show wpAny _ _ (forIn ((Value.ref it0, 0) :: (its.map Value.ref).zipIdx 1) _ _) _ _ _
    rw [List.forIn_cons]
    refine wpAny_bind (wpAny_bind (wpAny_onRaise ?_))
    show wpAny _ _ (Builtin.SmallTypes.nextOf (.ref it0) >>= _) _ _ ({ s with heap := g2 } : Shared)
    refine wpAny_bind (wpAny_nextOf_tuple_end (s := { s with heap := g2 }) hh (h01.extBut hs2.extBut hzi.symm) (ha1.extBut hs2.extBut hz_a) hi fun h' e sb he => ?_)
    obtain ⟨oe, hoe, hce⟩ := he
    have hzq : h'.get? z = some { cls := .type "zip", dict := none, data := .fields #[.ellipsis, .bool f1, .bool false, .ref TI, .ref TO], slots := #[] } := sb _ _ hzi hz2'
    have hez : e ≠ z := fun x => by subst x; rw [hzq] at hoe; cases hoe; simp at hce
    refine wpAny_setField_rec (s := { s with heap := h' }) hzq (by simp) fun q' _ hq' => ?_
    replace hq' : Heap.SameBut z h' q' := hq'
    exact hE q' e (fun c o c1 c2 c3 q => hq'.extBut _ _ c1 (sb _ _ (fun y => c3 (y ▸ List.mem_cons_self)) (hs2.extBut _ _ c1 (hs1.extBut _ _ c1 q)))) ⟨oe, hq'.extBut _ _ hez hoe, hce⟩
theorem ZipAny.typeIs {z TI TO : Addr} (hz : ZipAny s.heap z TI TO) : s.TypeIs (.ref z) "zip" := by
  obtain ⟨F, f, _, h⟩ := hz
  exact ⟨_, h, rfl⟩
theorem zipN_next {z TI TO : Addr} {its as : List Addr} {vals : List Value} {i : Nat} {Q : Option Value → Shared → Prop} (S : ZSep z TI TO its as) (hz : ZipAny s.heap z TI TO) (hTI : TupAt s.heap TI (its.map Value.ref)) (hTO : ∃ vs : List Value, vs.length = its.length ∧ TupAt s.heap TO vs)
    (hit : Its s.heap its as 0 i) (hval : ∀ (j : Nat) (a : Addr), as[j]? = some a → ∃ (items : Array Value) (x : Value), s.heap.IsTuple a items ∧ vals[j]? = some x ∧ items[i]? = some x) (l1 : as.length = its.length) (l2 : vals.length = its.length) (hne : its ≠ []) (hsz : its.length ≤ 1000)
    (hQ : ∀ h', ZipAny h' z TI TO → TupAt h' TI (its.map Value.ref) → (∃ vs : List Value, vs.length = its.length ∧ TupAt h' TO vs) → Its h' its as 0 (i + 1) → TupAt h' s.heap.objs.size vals →
      (∀ c o, c ≠ z → c ≠ TO → c ∉ its → s.heap.get? c = some o → h'.get? c = some o) → Q (some (.ref s.heap.objs.size)) { s with heap := h' }) : wpAny (model prog w) A (pyNext (.ref z)) Q E s := by
  have hT := hz.typeIs
  unfold pyNext
  exact wpAny_bind (wpAny_attempt (wpAny_callSpecial?_slot (name := Str.ofString "__next__") hT F.slot_zip_next
    (wpAny_call_entry F.slot_zip_next hT F.entry_zip_next
      (zipN_item S hz hTI hTO hit hval l1 l2 hne hsz fun h' a1 a2 a3 a4 a5 a6 => wpAny_pure (hQ h' a1 a2 a3 a4 a5 a6)) (F.args_zip_next_1 _))))
theorem zipN_stop {z TI TO it0 a0 : Addr} {its as : List Addr} {items : Array Value} {i : Nat} {Q : Option Value → Shared → Prop} (hh : A.handled = none) (S : ZSep z TI TO (it0 :: its) (a0 :: as)) (hz : ZipAny s.heap z TI TO) (hTI : TupAt s.heap TI ((it0 :: its).map Value.ref))
    (hTO : ∃ vs : List Value, vs.length = (it0 :: its).length ∧ TupAt s.heap TO vs) (hit : Its s.heap (it0 :: its) (a0 :: as) 0 i) (ha : s.heap.IsTuple a0 items) (hi : items[i]? = none)
    (hQ : ∀ h', (∀ c o, c ≠ z → c ≠ TO → c ∉ it0 :: its → s.heap.get? c = some o → h'.get? c = some o) → Q none { s with heap := h' }) : wpAny (model prog w) A (pyNext (.ref z)) Q E s := by
  have hT := hz.typeIs
  unfold pyNext
  refine wpAny_bind (wpAny_attempt (wpAny_callSpecial?_slot (name := Str.ofString "__next__") hT F.slot_zip_next
    (wpAny_call_entry F.slot_zip_next hT F.entry_zip_next (zipN_end hh S hz hTI hTO hit ha hi fun h' e hk he => ?_) (F.args_zip_next_1 _))))
  obtain ⟨o, ho, hc⟩ := he
  refine wpAny_bind (wpAny_isInstance (T := "StopIteration") (b := true) ⟨o, ho, hc⟩ isSubtype_stop ?_)
  exact wpAny_pure (hQ _ hk)
theorem zip_self {z TI TO : Addr} {Q : Value → Shared → Prop} (hz : ZipAny s.heap z TI TO) (h : Q (.ref z) s) : wpAny (model prog w) A (pyIter (.ref z)) Q E s := by
  have hT := hz.typeIs
  refine wpAny_pyIter_slot hT F.slot_zip_iter (wpAny_call_entry F.slot_zip_iter hT F.entry_zip_iter ?_ (F.args_zip_iter_1 _))
  show wpAny _ _ (ret (.ref z)) _ _ s
  exact wpAny_pure ⟨_, rfl, "zip", _, hT, F.slot_zip_next.lookup, h⟩
end
/-! ### the walk -/
/-- the tuples at as as they stand at each turn -/
def ItZ (K : PySem.W.Frag) (as : List Addr) : It :=
  ⟨fun i H => ∀ a ∈ as, ∃ (xs : List V) (x : V), SqT K H a xs ∧ xs[i]? = some x,
    fun i H v H' => ∃ (T : Addr) (ys : List V), v = .ref T ∧ H T = none ∧ H' = upd H T (.tup ys) ∧ ys.length = as.length ∧ ∀ (j : Nat) (a : Addr), as[j]? = some a → ∀ xs : List V, SqT K H a xs → ys[j]? = xs[i]?,
    fun i H => ∃ a xs, as[0]? = some a ∧ SqT K H a xs ∧ xs.length ≤ i⟩
theorem turn_zipN {P : Program} {w : World} {K : PySem.W.Frag} {x : Str} {tpos : Pos} {z TI TO : Addr} {its as : List Addr} (S : ZSep z TI TO its as) (l1 : as.length = its.length) (hne : its ≠ []) (hsz : its.length ≤ 1000) :
    Turn P w K (.Name x tpos) (ItZ K as) (z :: TI :: TO :: its) z (fun i h => ZipAny h z TI TO ∧ TupAt h TI (its.map Value.ref) ∧ (∃ vs : List Value, vs.length = its.length ∧ TupAt h TO vs) ∧ Its h its as 0 i) where
  mem := by simp
  obj := fun i h st c hc => by
    obtain ⟨⟨F, f, _, hz⟩, hTI, ⟨vs, _, hTO⟩, hit⟩ := st
    rcases List.mem_cons.mp hc with q | hc
    · rw [q]; exact ⟨_, hz, fun v q => nomatch q⟩
    rcases List.mem_cons.mp hc with q | hc
    · rw [q]; exact ⟨_, hTI, fun v q => nomatch q⟩
    rcases List.mem_cons.mp hc with q | hc
    · rw [q]; exact ⟨_, hTO, fun v q => nomatch q⟩
    obtain ⟨j, hj, rfl⟩ := List.mem_iff_getElem.mp hc
    obtain ⟨o, e, _, d⟩ := hit j its[j] as[j] (by simp [hj]) (by simp [show j < as.length by omega])
    exact ⟨o, e, fun v q => by rw [d] at q; cases q⟩
  keep := fun i h h' st k => by
    obtain ⟨⟨F, f, hF, hz⟩, hTI, ⟨vs, hv, hTO⟩, hit⟩ := st
    exact ⟨⟨F, f, hF, k z (by simp) _ hz⟩, k TI (by simp) _ hTI, ⟨vs, hv, k TO (by simp) _ hTO⟩, fun j it a e ea => (hit j it a e ea).at fun o q => k it (by simp [List.mem_of_getElem? e]) o q⟩
  item := by
    intro X hP hw hK hc i pins s σ H E I hf st hg
    subst hP hw hK
    obtain ⟨hz, hTI, hTO, hit⟩ := st
    -- the values
    have ex : ∀ as' : List Addr, (∀ a ∈ as', ∃ (xs : List V) (x : V), SqT X.K H a xs ∧ xs[i]? = some x) → ∃ (ys : List V) (us : List Value), ys.length = as'.length ∧ Vals ys us ∧
        (∀ (j : Nat) (a : Addr), as'[j]? = some a → ∀ xs : List V, SqT X.K H a xs → ys[j]? = xs[i]?) ∧ ∀ (j : Nat) (a : Addr), as'[j]? = some a → ∃ (items : Array Value) (x : Value), s.heap.IsTuple a items ∧ us[j]? = some x ∧ items[i]? = some x := by
      intro as'
      induction as' with
      | nil => exact fun _ => ⟨[], [], rfl, .nil, (fun j a e => by cases e), (fun j a e => by cases e)⟩
      | cons a as' ih =>
        intro h
        obtain ⟨xs, x, hq, hx⟩ := h a List.mem_cons_self
        obtain ⟨ys, us, h1, h2, h3, h4⟩ := ih fun b hb => h b (List.mem_cons_of_mem _ hb)
        obtain ⟨itms, rv, p, _⟩ := I.tuple hq
        obtain ⟨u, hu, ru⟩ := rv.get hx
        refine ⟨x :: ys, u :: us, by simp [h1], .cons ru h2, fun j b e zs hzs => ?_, fun j b e => ?_⟩
        · cases j with
          | zero => cases e; rw [I.tuple_inj hzs hq, hx] <;> rfl
          | succ j => exact h3 j b e zs hzs
        · cases j with
          | zero => cases e; exact ⟨_, u, p, rfl, by simpa using hu⟩
          | succ j => exact h4 j b e
    obtain ⟨ys, us, hl, rv, hys, hus⟩ := ex as hg
    have hul : us.length = its.length := by rw [← rv.length, hl, l1]
    refine zipN_next S hz hTI hTO hit hus l1 hul hne hsz fun h' z' TI' TO' it' hT hk => ⟨_, rfl, ?_⟩
    refine wpAny_pure ?_
    have new : ObjOk X.prog X.w (upd H s.heap.objs.size (.tup ys)) h' s.heap.objs.size (.tup ys) :=
      ⟨Nat.le_trans (by omega : ys.length ≤ 1000) (by decide), us, rv, ⟨_, hT, rfl, _, rfl⟩⟩
    have I1 : Inv X pins σ (upd H s.heap.objs.size (.tup ys)) { s with heap := h' } :=
      I.turnedNew (t' := s.toks) (ch := z :: TI :: TO :: its) (fun c o hb q => hk c o (fun q' => hb (by simp [q'])) (fun q' => hb (by simp [q'])) (fun q' => hb (by simp [q'])) q) hf (Nat.le_refl _) new
    refine ⟨.ref s.heap.objs.size, _, I1, rfl, ⟨_, ys, rfl, I.hok.fresh (Nat.le_refl _), rfl, hl, hys⟩, ⟨z', TI', TO', it'⟩, fun c hcm => ?_⟩
    have hlt : c < s.heap.objs.size := by
      obtain ⟨F, f, _, hz⟩ := hz
      obtain ⟨vs, _, hTO⟩ := hTO
      rcases List.mem_cons.mp hcm with q | hcm
      · rw [q]; exact Heap.lt_size hz
      rcases List.mem_cons.mp hcm with q | hcm
      · rw [q]; exact Heap.lt_size hTI
      rcases List.mem_cons.mp hcm with q | hcm
      · rw [q]; exact Heap.lt_size hTO
      obtain ⟨j, hj, rfl⟩ := List.mem_iff_getElem.mp hcm
      obtain ⟨o, e, _⟩ := hit j its[j] as[j] (by simp [hj]) (by simp [show j < as.length by omega])
      exact Heap.lt_size e
    rw [upd_ne (Nat.ne_of_lt hlt)]
    exact (hf c hcm).1
  done := by
    intro X hP hw hK hc i pins s σ H E I hf st hg
    subst hP hw hK
    obtain ⟨hz, hTI, hTO, hit⟩ := st
    obtain ⟨a, xs, ha, hq, hle⟩ := hg
    obtain ⟨itms, rv, p, _⟩ := I.tuple hq
    have l3 := rv.length
    cases its with
    | nil => exact (hne rfl).elim
    | cons it0 its =>
      cases as with
      | nil => cases ha
      | cons a0 as =>
        cases ha
        refine zipN_stop (I.ok.hd hc) S hz hTI hTO hit p (by simp; omega) fun h' hk => ⟨rfl, I.turnedL (t' := s.toks) (ch := z :: TI :: TO :: (it0 :: its)) (fun c o hb q => hk c o (fun q' => hb (by simp [q'])) (fun q' => hb (by simp [q'])) (fun q' => hb (List.mem_cons_of_mem _ (List.mem_cons_of_mem _ (List.mem_cons_of_mem _ q')))) q) hf⟩
  self := fun A i s Q E st h => zip_self st.1 h
end DL

/-! DL13: zip(*xs) of one to three tuples, to one name: how it begins, the rule. -/
namespace DL
open PySem PySem.Spec PyProof.Rows L2
open Evl (Ex)
theorem typeCall_zip_1 (a : Value) : checkTypeCall "zip" ⟨[a], []⟩ = pure () := by kernel_rfl
theorem newCall_zip_1 (a : Value) : checkBuiltinCall "zip.__new__" ⟨[.type "zip", a], []⟩ = pure () := by kernel_rfl
theorem args_object_init_2 (obj a : Value) : argsOk "object.__init__" ⟨[obj, a], []⟩ := by unfold argsOk; kernel_rfl
abbrev gzT1 (h : Heap) (o1 : Obj) : Heap := (h.push o1).push { cls := .type "tuple", data := .seq #[.ref h.objs.size] }
abbrev gzO1 (h : Heap) (o1 : Obj) : Heap := (gzT1 h o1).push { cls := .type "tuple", data := .seq #[.none] }
abbrev gzZ1 (h : Heap) (o1 : Obj) : Heap := (gzO1 h o1).push { cls := .type "zip", data := .fields #[.none, .bool false, .bool false, .ref (h.push o1).objs.size, .ref (gzT1 h o1).objs.size] }
theorem meets_zip_newB1 {v1 : Value} {o1 : Obj} {H1 : Heap → Prop} (B1 : Begins v1 o1 H1) :
    Meets (Builtin.«zip.__new__» ⟨[.type "zip", v1], []⟩) (fun _ R s => H1 s.heap ∧
      R (.ok (.ret (.ref (gzO1 s.heap o1).objs.size))) { s with heap := gzZ1 s.heap o1 }) :=
  .of_wp fun prog w A R s h => by
    obtain ⟨hp, g, d, tk, os⟩ := s; obtain ⟨h1, h⟩ := h
    have hsub := sub_zip
    have q1 : ∀ {A' : Around} {E : Value → Shared → Prop} {Q : Value → Shared → Prop}, Q (.ref hp.objs.size) ⟨(hp.push o1), g, d, tk, os⟩ → wpAny (model prog w) A' (pyIter v1) Q E ⟨hp, g, d, tk, os⟩ :=
      fun q => B1.iter prog w _ _ ⟨hp, g, d, tk, os⟩ _ (B1.keeps _ _ h1 fun b o' e => e) q
    wp_walk using q1
    exact ⟨_, rfl, h⟩
section
variable {prog : Program} {w : World} {A : Around} {E : Value → Shared → Prop} {s : Shared}
theorem zip_begins1 {v1 : Value} {o1 : Obj} {H1 : Heap → Prop} {Q : Value → Shared → Prop} (B1 : Begins v1 o1 H1) (h1 : H1 s.heap)
    (h : ∀ h', IsZip h' (s.heap.objs.size + 3) (s.heap.objs.size + 1) (s.heap.objs.size + 2) .none → TupAt h' (s.heap.objs.size + 1) [.ref s.heap.objs.size] →
      TupAt h' (s.heap.objs.size + 2) [.none] → h'.get? s.heap.objs.size = some o1 →
      (∀ c o, s.heap.get? c = some o → h'.get? c = some o) → Q (.ref (s.heap.objs.size + 3)) { s with heap := h' }) :
    wpAny (model prog w) A (call (.type "zip") [v1]) Q E s := by
  refine callType_new F.called_zip (by decide) (typeCall_zip_1 _) (newCall_zip_1 _) (fun obj => args_object_init_2 obj _) F.entry_zip_new
    (meets_zip_newB1 B1) ⟨h1, ?_⟩
  have z1 : (s.heap.push o1).objs.size = s.heap.objs.size + 1 := by rw [Heap.size_push]
  have zT : (gzT1 s.heap o1).objs.size = s.heap.objs.size + 2 := by rw [Heap.size_push, z1]
  have zO : (gzO1 s.heap o1).objs.size = s.heap.objs.size + 3 := by rw [Heap.size_push, zT]
  have gZ : (gzZ1 s.heap o1).get? (gzO1 s.heap o1).objs.size = some { cls := .type "zip", data := .fields #[.none, .bool false, .bool false, .ref (s.heap.push o1).objs.size, .ref (gzT1 s.heap o1).objs.size] } := Heap.get?_push_size _ rfl
  have gO : (gzZ1 s.heap o1).get? (gzT1 s.heap o1).objs.size = some { cls := .type "tuple", data := .seq #[.none] } := Heap.get?_push_of_some _ (Heap.get?_push_size _ rfl)
  have gT : (gzZ1 s.heap o1).get? (s.heap.push o1).objs.size = some { cls := .type "tuple", data := .seq #[.ref s.heap.objs.size] } := Heap.get?_push_of_some _ (Heap.get?_push_of_some _ (Heap.get?_push_size _ rfl))
  have g1 : (gzZ1 s.heap o1).get? s.heap.objs.size = some o1 := Heap.get?_push_of_some _ (Heap.get?_push_of_some _ (Heap.get?_push_of_some _ (Heap.get?_push_size _ B1.free)))
  rw [zO, zT, z1] at gZ
  rw [zT] at gO
  rw [z1] at gT
  show _ ∧ _
  rw [zO]
  exact ⟨⟨_, gZ, rfl⟩, h _ gZ gT gO g1 fun c o e => Heap.get?_push_of_some _ (Heap.get?_push_of_some _ (Heap.get?_push_of_some _ (Heap.get?_push_of_some _ e)))⟩
/-- the addresses from N on -/
def freshAs (N n : Nat) : List Addr := (List.range n).map (N + ·)
theorem zip_begins {as : List Addr} {Q : Value → Shared → Prop} (h0 : 1 ≤ as.length) (h3 : as.length ≤ 3) (ht : ∀ a ∈ as, ∃ items, s.heap.IsTuple a items)
    (h : ∀ h', ZipAny h' (s.heap.objs.size + (as.length + 2)) (s.heap.objs.size + as.length) (s.heap.objs.size + (as.length + 1)) → TupAt h' (s.heap.objs.size + as.length) ((freshAs s.heap.objs.size as.length).map Value.ref) →
      (∃ vs : List Value, vs.length = (freshAs s.heap.objs.size as.length).length ∧ TupAt h' (s.heap.objs.size + (as.length + 1)) vs) → Its h' (freshAs s.heap.objs.size as.length) as 0 0 →
      (∀ c o, s.heap.get? c = some o → h'.get? c = some o) → Q (.ref (s.heap.objs.size + (as.length + 2))) { s with heap := h' }) :
    wpAny (model prog w) A (call (.type "zip") (as.map Value.ref)) Q E s := by
  match as, h0, h3, ht, h with
  | [a], _, _, ht, h =>
    obtain ⟨i1, t1⟩ := ht a (by simp)
    refine zip_begins1 (begins_tuple a i1) t1 fun h' hz hTI hTO g1 hk => h h' ⟨_, _, .inl rfl, hz⟩ hTI ⟨_, rfl, hTO⟩ (fun j it b e e2 => ?_) hk
    match j, e, e2 with
    | 0, e, e2 => cases e; cases e2; exact ⟨_, g1, rfl, rfl⟩
    | j + 1, e, e2 => cases e2
  | [a, b], _, _, ht, h =>
    obtain ⟨i1, t1⟩ := ht a (by simp)
    obtain ⟨i2, t2⟩ := ht b (by simp)
    refine zip_begins2 (begins_tuple a i1) (begins_tuple b i2) t1 t2 fun h' hz hTI hTO g1 g2 _ hk => h h' ⟨_, _, .inl rfl, hz⟩ hTI ⟨_, rfl, hTO⟩ (fun j it c e e2 => ?_) hk
    match j, e, e2 with
    | 0, e, e2 => cases e; cases e2; exact ⟨_, g1, rfl, rfl⟩
    | 1, e, e2 => cases e; cases e2; exact ⟨_, g2, rfl, rfl⟩
    | j + 2, e, e2 => cases e2
  | [a, b, c], _, _, ht, h =>
    obtain ⟨i1, t1⟩ := ht a (by simp)
    obtain ⟨i2, t2⟩ := ht b (by simp)
    obtain ⟨i3, t3⟩ := ht c (by simp)
    refine zip_begins3 (begins_tuple a i1) (begins_tuple b i2) (begins_tuple c i3) t1 t2 t3 fun h' hz hTI hTO g1 g2 g3 _ hk => h h' ⟨_, _, .inl rfl, hz⟩ hTI ⟨_, rfl, hTO⟩ (fun j it c e e2 => ?_) hk
    match j, e, e2 with
    | 0, e, e2 => cases e; cases e2; exact ⟨_, g1, rfl, rfl⟩
    | 1, e, e2 => cases e; cases e2; exact ⟨_, g2, rfl, rfl⟩
    | 2, e, e2 => cases e; cases e2; exact ⟨_, g3, rfl, rfl⟩
    | j + 3, e, e2 => cases e2
  | [], h0, _, _, _ => exact absurd h0 (by decide)
  | _ :: _ :: _ :: _ :: _, _, h3, _, _ => simp at h3
end
theorem freshAs_mem {N n c : Nat} (h : c ∈ freshAs N n) : N ≤ c ∧ c < N + n := by
  obtain ⟨j, hj, rfl⟩ := List.mem_map.mp h
  have := List.mem_range.mp hj
  show N ≤ N + j ∧ N + j < N + n
  omega
theorem zsep_fresh {N : Nat} {as : List Addr} (h : ∀ a ∈ as, a < N) : ZSep (N + (as.length + 2)) (N + as.length) (N + (as.length + 1)) (freshAs N as.length) as where
  TIz := show N + as.length ≠ N + (as.length + 2) by omega
  TOz := show N + (as.length + 1) ≠ N + (as.length + 2) by omega
  TITO := show N + as.length ≠ N + (as.length + 1) by omega
  zi := fun q => by have := freshAs_mem q; omega
  TIi := fun q => by have := freshAs_mem q; omega
  TOi := fun q => by have := freshAs_mem q; omega
  nd := by
    unfold freshAs
    exact List.pairwise_map.mpr (List.nodup_range.imp fun {a b} h e => h (Nat.add_left_cancel e))
  az := fun q => by have q' : (N + (as.length + 2) : Nat) < N := h _ q; omega
  aTO := fun q => by have q' : (N + (as.length + 1) : Nat) < N := h _ q; omega
  ai := fun a ha q => absurd (freshAs_mem q).1 (Nat.not_le_of_lt (h _ ha))
def iZipS (K : PySem.W.Frag) (te : TE) : TI := fun σ H R => te σ H fun v H1 => ∃ (t : Addr) (as : List Addr), v = .ref t ∧ SqT K H1 t (as.map V.ref) ∧ 1 ≤ as.length ∧ as.length ≤ 3 ∧ (∀ a ∈ as, ∃ xs : List V, SqT K H1 a xs) ∧ R (ItZ K as) H1
theorem vals_refs : ∀ {as : List Addr} {us : List Value}, Vals (as.map V.ref) us → us = as.map Value.ref
  | [], _, h => by cases h; rfl
  | a :: as, _, h => by
    cases h with
    | cons r rr =>
      cases r
      rw [vals_refs rr]
      rfl
theorem pi_zipS {X : Cx} {x : Str} {tpos : Pos} {e : Expr} {te : TE} {p sp pos : Pos} (hg : Gl X "zip") (hm : X.mg "zip" = none) (he : PE X e te) (hst : starEach [.Starred e sp] X.env = [(true, eval e X.env)] := by rfl) :
    PI X (.Name x tpos) (.Call (.Name "zip" p) [.Starred e sp] [] pos) (iZipS X.K te) := by
  refine ⟨fun pins s σ H R I h => ?_⟩
  refine Call_ (ld_blt I hg hm PyProof.Rows.boot_zip ?_)
  rw [hst]
  refine PySem.W.ks_call (P := fun _ => True) rfl (fun h _ => ⟨.machine, .inr (.inl rfl), PySem.W.Looks.of_pure rfl⟩) (PySem.W.ks_lone (thn (he.run pins s σ H _ I h) fun v s1 ⟨y, H1, I1, ry, t, as, ey, ht, h1, h3, ha, q⟩ => ?_))
  subst ey
  obtain rfl : v = Value.ref t := ry
  refine StX.star_any I1 (.inl ht) fun us s2 I2 rv => ⟨trivial, ?_⟩
  have hu := vals_refs rv
  subst hu
  have htu : ∀ a ∈ as, ∃ items, s2.heap.IsTuple a items := fun a hmem => by
    obtain ⟨xs, hq⟩ := ha a hmem
    obtain ⟨itms, _, p, _⟩ := I2.tuple hq
    exact ⟨_, p⟩
  have hlt : ∀ a ∈ as, a < s2.heap.objs.size := fun a hmem => by
    obtain ⟨items, o, e, _⟩ := htu a hmem
    exact Heap.lt_size e
  show wpAny _ _ (call (.type "zip") (as.map Value.ref)) _ _ s2
  refine zip_begins h1 h3 htu fun h' hz hTI hTO hit hk => zip_self hz ?_
  have I3 : Inv X pins σ H1 { s2 with heap := h' } := I2.kept (t' := s2.toks) hk
  have hfl : (freshAs s2.heap.objs.size as.length).length = as.length := by unfold freshAs; simp
  refine ⟨s2.heap.objs.size + (as.length + 2), _, _, _, H1, rfl, I3, turn_zipN (zsep_fresh hlt) hfl.symm (fun z => ?_) (by rw [hfl]; omega), ⟨hz, hTI, hTO, hit⟩, fun c hcm => ?_, q⟩
  · rw [z] at hfl
    simp at hfl
    omega
  · have hle : s2.heap.objs.size ≤ c := by
      rcases List.mem_cons.mp hcm with z | hcm
      · rw [z]; exact Nat.le_add_right _ _
      rcases List.mem_cons.mp hcm with z | hcm
      · rw [z]; exact Nat.le_add_right _ _
      rcases List.mem_cons.mp hcm with z | hcm
      · rw [z]; exact Nat.le_add_right _ _
      exact (freshAs_mem hcm).1
    exact I2.fpOk hle (I2.hok.fresh hle)
theorem k_zipS {X : Cx} {K : PySem.W.Frag} {x : Str} {tpos : Pos} {e : Expr} {te : TE} {p sp pos : Pos} (hK : X.K = K) (hg : Gl X "zip") (hm : X.mg "zip" = none) (he : PE X e te) (hst : starEach [.Starred e sp] X.env = [(true, eval e X.env)] := by rfl) :
    PI X (.Name x tpos) (.Call (.Name "zip" p) [.Starred e sp] [] pos) (iZipS K te) := by subst hK; exact pi_zipS hg hm he hst
end DL

/-! DL14: the columns of rows by zip(*rows). -/
namespace DL
open PySem L2
open Evl (Ex)
section
variable {K : PySem.W.Frag} {env : Env} {te : TE}
theorem get_lt' {α : Type} {l : List α} {i : Nat} {x : α} (h : i < l.length) : l[i]? = some (l.getD i x) := by
  rw [List.getD_eq_getElem?_getD]; simp [h]
theorem rows_at {F : Hp} : ∀ (rows : List (List Int)) (vs : List V), RpA F vs (rows.map tI) → ∃ as : List Addr, vs = as.map V.ref ∧ as.length = rows.length ∧ ∀ (j : Nat) (a : Addr), as[j]? = some a → ∃ r, rows[j]? = some r ∧ F a = some (.tup (r.map V.int))
  | [], vs, h => by
    cases h
    exact ⟨[], rfl, rfl, fun j a e => nomatch e⟩
  | r :: rows, _, h => by
    cases h with
    | cons hv hr =>
      obtain ⟨as, rfl, hl, hq⟩ := rows_at rows _ hr
      cases hv with
      | @tup a us _ ea rr =>
        have := rr.ints_eq
        subst this
        refine ⟨a :: as, rfl, by simp [hl], fun j b e => ?_⟩
        cases j with
        | zero => cases e; exact ⟨r, rfl, ea⟩
        | succ j => exact hq j b e
theorem ei_zipS {rows : List (List Int)} {m : Nat} (h : Ev te env (tR rows)) (h1 : 1 ≤ rows.length) (h3 : rows.length ≤ 3) (hm : ∀ r ∈ rows, r.length = m) : EvI (iZipS K te) env ((List.range m).map fun i => tI (rows.map fun r => r.getD i 0)) := fun B N F H σ R Q q => h B N F H σ R _ fun v F1 H1 g1 rv => by
  cases rv with
  | @tup t vs _ et rr =>
    obtain ⟨as, rfl, hl, hq⟩ := rows_at rows vs rr
    refine ⟨t, as, rfl, .inl (.inl (g1.fh _ _ et)), by omega, by omega, fun a ha => ?_, q _ F1 H1 g1 fun i F2 H2 _ e2 f2 => ⟨fun d hd => ?_, fun hle => ?_⟩⟩
    · obtain ⟨j, hj, rfl⟩ := List.mem_iff_getElem.mp ha
      obtain ⟨r, _, e⟩ := hq j as[j] (by simp [hj])
      exact ⟨_, .inl (.inl (g1.fh _ _ e))⟩
    · rw [List.getElem?_map] at hd
      obtain ⟨i', hi', rfl⟩ := Option.map_eq_some_iff.mp hd
      obtain ⟨hlt, hii⟩ := List.getElem?_eq_some_iff.mp hi'
      rw [List.length_range] at hlt
      have hii' : i' = i := by rw [← hii, List.getElem_range]
      subst hii'
      have sq : ∀ (j : Nat) (a : Addr), as[j]? = some a → ∃ r, rows[j]? = some r ∧ SqT K H2 a (r.map V.int) := fun j a e => by
        obtain ⟨r, hr, ea⟩ := hq j a e
        exact ⟨r, hr, .inl (.inl (f2 _ _ (e2 _ _ ea)))⟩
      have ati : ∀ r : List Int, r ∈ rows → (r.map V.int)[i']? = some (.int (r.getD i' 0)) := fun r hr => by
        rw [List.getElem?_map, get_lt' (by rw [hm r hr]; exact hlt)]
        rfl
      refine ⟨fun a ha => ?_, fun z H3 ⟨T, ys, ez, hT, eh, hyl, hys⟩ => ?_⟩
      · obtain ⟨j, hj, rfl⟩ := List.mem_iff_getElem.mp ha
        obtain ⟨r, hr, hs⟩ := sq j as[j] (by simp [hj])
        exact ⟨_, _, hs, ati r (List.mem_of_getElem? hr)⟩
      · subst ez eh
        have hyv : ys = (rows.map fun r => r.getD i' 0).map V.int := by
          refine List.ext_getElem? fun j => ?_
          cases ea : as[j]? with
          | none =>
            have hn : as.length ≤ j := List.getElem?_eq_none_iff.mp ea
            rw [List.getElem?_eq_none (by omega), List.getElem?_eq_none (by simp; omega)]
          | some a =>
            obtain ⟨r, hr, hs⟩ := sq j a ea
            rw [hys j a ea _ hs, ati r (List.mem_of_getElem? hr), List.getElem?_map, List.getElem?_map, hr]
            rfl
        rw [hyv]
        exact ⟨_, Gr.new f2 hT, .tup upd_same (RpA.ints _)⟩
    · rw [List.length_map, List.length_range] at hle
      cases as with
      | nil => simp at hl; omega
      | cons a0 as =>
        obtain ⟨r, hr, ea⟩ := hq 0 a0 rfl
        refine ⟨a0, r.map V.int, rfl, .inl (.inl (f2 _ _ (e2 _ _ ea))), ?_⟩
        rw [List.length_map, hm r (List.mem_of_getElem? hr)]
        exact hle
end
end DL

/-! DL15: dicts of True whose keys are nested tuples; sorted of a dict. -/
namespace DL
open PySem L2
open PySem.W (EachIs AllAlike Sortable dataLt alike keyToks)
open Evl (Ex)
open PyProof.Rows (seqObj)
/-! ### sorted of a dict -/
section
variable {X : Cx}
theorem sorted_raw {pins : List (Addr × Obj)} {s : Shared} {σ : St} {H : Hp} (hc : X.calm = true) (hu : X.A.units + 64 < cLine) (I : Inv X pins σ H s) {a : Addr} {es : Array DictEntry} {ep : Nat} (lo : (a == sysModules) = false) (hm : s.heap.DictRaw a es ep) (hsz : es.size ≤ 100000)
    (ps : List (V × PyData)) (rv : Vals (ps.map (·.1)) (es.toList.map (·.key))) (hd : ∀ p ∈ ps, Dp X.K H p.1 p.2) (hal : AllAlike (ps.map (·.2))) (hso : Sortable (ps.map (·.2))) (hdp : ∀ p ∈ ps, p.2.depth ≤ 60) {Q : VK}
    (q : ∀ p, H p = none → Q (.ref p) (upd H p (.lst ((ps.mergeSort fun a b => !dataLt b.2 a.2).map (·.1))))) : wpAny (model X.prog X.w) X.A (call (.builtin "sorted") [.ref a]) (EP X pins σ Q) X.xe s := by
  have hlen : ps.length = es.size := by
    have := rv.length
    rwa [List.length_map, List.length_map, Array.length_toList] at this
  have hbig : (100000 : Nat) ≤ sizeLine := by decide
  refine Calls.call_function_entry PyProof.Rows.kind_sorted PyProof.Rows.plain_sorted PyProof.Rows.entry_sorted (PyProof.Rows.args_sorted1 _) ?_
  unfold Builtin.«sorted»
  refine wpAny_bind (m := checkCount "sorted" 1 1 _) (wpAny_pure ?_)
  refine wpAny_bind (PySem.W.kdu_collect (A := X.A.in1) (KdlSrc.rawDict lo) (I.ok.hd hc) hm (Nat.le_trans hsz hbig) fun h' tk acc hk hacc => ?_)
  have hits : acc.toList = es.toList.map (·.key) := by
    refine List.ext_getElem? fun j => ?_
    rw [List.getElem?_map, Array.getElem?_toList, Array.getElem?_toList]
    cases e : acc[j]? with
    | none =>
      have : acc.size ≤ j := by simpa using e
      rw [Array.getElem?_eq_none (by rw [← hacc.1]; exact this)]
      rfl
    | some v =>
      obtain ⟨hj, ev⟩ := hacc.2 j v e
      rw [ev, Array.getElem?_eq_getElem hj]
      rfl
  have I1 : Inv X pins σ H { s with heap := h', toks := tk } := I.kept hk
  rw [hits]
  let its := es.toList.map (·.key)
  have hil : its.length = ps.length := by show (es.toList.map _).length = _; rw [List.length_map, Array.length_toList, hlen]
  have hil2 : its.length ≤ sizeLine := by rw [hil, hlen]; exact Nat.le_trans hsz hbig
  refine wpAny_bind (wpAny_newList ?_ hil2)
  let hp := h'.push (seqObj "list" its.toArray 0)
  have hoL : hp.get? h'.objs.size = some (seqObj "list" its.toArray 0) := Heap.get?_push_size _ rfl
  have kp : ∀ b o, h'.get? b = some o → (PySem.W.sortingHeap hp h'.objs.size its).get? b = some o := fun b o e => PySem.W.sortingHeap_old (Nat.ne_of_lt (Heap.lt_size e)) (Heap.get?_push_of_some _ e)
  have e := each_of I1 ps its rv hd
  have e2 : EachIs (fun v d => ∃ as, Reads (PySem.W.sortingHeap hp h'.objs.size its) v d as) its (ps.map (·.2)) :=
    each_map (R := fun v d => ∃ as, Reads (PySem.W.sortingHeap hp h'.objs.size its) v d as) (fun p : V × PyData => p.2) (e.mono fun u p ⟨_, as, z⟩ => ⟨as, PyProof.Rows.Reads.keeps kp z⟩)
  have S : PySem.W.SortsAt X.prog X.w X.A.in1.in1 { s with heap := PySem.W.sortingHeap hp h'.objs.size its, toks := tk } (PySem.W.dataKind (PySem.W.sortingHeap hp h'.objs.size its) (ps.map (·.2))) its :=
    PySem.W.SortsAt.data (s := { s with heap := PySem.W.sortingHeap hp h'.objs.size its, toks := tk }) e2 hal hso fun d hmem => by
      obtain ⟨p, hp, rfl⟩ := List.mem_map.mp hmem
      have := hdp p hp
      show X.A.units + 1 + 1 + p.2.depth < cLine
      omega
  show wpAny _ _ _ _ _ ({ s with heap := hp, toks := tk } : Shared)
  refine wpAny_bind (wpAny_holding (wpAny_call_entry PyProof.Rows.slot_list_sort ⟨_, hoL, rfl⟩ PyProof.Rows.entry_list_sort
    (PySem.W.list_sort_vals (s := { s with heap := hp, toks := tk }) hoL S hil2 ⟨_, rfl, ?_⟩) (PyProof.Rows.args_list_sort _)))
  have e3 : EachIs (fun v (p : V × PyData) => (PySem.W.dataKind (PySem.W.sortingHeap hp h'.objs.size its) (ps.map (·.2))).keyOf v = some (keyToks p.2)) its ps :=
    (each_with e (T := fun p => p.2 ∈ ps.map (·.2)) fun p hp => List.mem_map.mpr ⟨p, hp, rfl⟩).mono fun u p ⟨⟨_, as, z⟩, hmem⟩ => PySem.W.dataKind_some hal hmem (PyProof.Rows.Reads.keeps kp z)
  have e4 := PySem.W.sortVals_each (rev := false) (κ := PySem.W.dataKind (PySem.W.sortingHeap hp h'.objs.size its) (ps.map (·.2))) (fun p : V × PyData => keyToks p.2) (e.mono fun u p z => z.1) e3
  have e5 := each_vals e4
  have eo : (ps.mergeSort fun a b => !dataLt b.2 a.2) = ps.mergeSort (PySem.W.sortLe (PySem.W.dataKind (PySem.W.sortingHeap hp h'.objs.size its) (ps.map (·.2))).toKeyOrd false fun p : V × PyData => keyToks p.2) := rfl
  obtain ⟨ep', he'⟩ := PyProof.Rows.sortedHeap_at (vs := its) (out := (PySem.W.sortVals (PySem.W.dataKind (PySem.W.sortingHeap hp h'.objs.size its) (ps.map (·.2))) false its its).toArray) hoL
  have hln : ((ps.mergeSort fun a b => !dataLt b.2 a.2).map (·.1)).length ≤ sizeLine := by
    rw [List.length_map, (List.mergeSort_perm _ _).length_eq, ← hil]
    exact hil2
  refine wpAny_pure ⟨_, rfl, .ref h'.objs.size, upd H h'.objs.size (.lst ((ps.mergeSort fun a b => !dataLt b.2 a.2).map (·.1))), I1.laid (t' := tk) (fun b u z => ?_) (Nat.le_refl _)
    (show ObjOk X.prog X.w _ _ _ (.lst _) from ⟨hln, _, ep', by rw [eo]; exact e5, by simpa using he'⟩), rfl, q _ (I1.hok.fresh (Nat.le_refl _))⟩
  have hb : b < h'.objs.size := Heap.lt_size z
  rw [PyProof.Rows.sortedHeap_old (Nat.ne_of_lt hb) (by show b < (h'.push _).objs.size; rw [Heap.size_push]; exact Nat.lt_succ_of_lt hb)]
  exact Heap.get?_push_of_some _ z
end
/-! ### dicts of nested keys -/
theorem nd_ok {P : Program} {w' w : World} {H : Hp} {h : Heap} {a : Addr} {kas : List (NestedKey × Addr)} (x : NdP w a kas h) : ObjOk P w' H h a (NDO w a kas) := by
  refine ⟨x, ?_, fun h1 h2 q k => ?_⟩
  · obtain ⟨_, _, _, _, o, _, _, e, _⟩ := x
    exact ⟨o, e⟩
  · obtain ⟨z1, z2, z3, z4, o, es, ep, e, r⟩ := q
    exact ⟨z1, z2, z3, z4, o, es, ep, k _ e, r⟩
def tDNewN (w : World) : TE := fun _ H Q => ∀ p, H p = none → Q (.ref p) (upd H p (NDO w p []))
theorem pe_dnewN {X : Cx} {pos : Pos} {w : World} (hw : X.w = w) : PE X (.Dict [] [] pos) (tDNewN w) := ⟨fun pins s σ H Q I h =>
  wpAny_Dict_empty ⟨.ref s.heap.objs.size, _, I.laid (a := s.heap.objs.size) (o := NDO w s.heap.objs.size []) (t' := s.toks) (fun _ _ q => Heap.get?_push_of_some _ q) (Nat.le_refl _)
    (nd_ok ⟨beq_eq_false_iff_ne.mpr (Ne.symm (Nat.ne_of_lt I.big)), Nat.zero_le _, .nil, (fun q hq => nomatch hq), _, _, _, Heap.get?_push_size _ rfl, ⟨rfl, rfl, rfl⟩, rfl, rfl⟩), rfl, h _ (I.hok.fresh (Nat.le_refl _))⟩⟩
def putN (kas : List (NestedKey × Addr)) (k : NestedKey) (b : Addr) : List (NestedKey × Addr) := if (kas.map (·.1)).any (fun x => decide (x = k)) then kas else kas ++ [(k, b)]
def insN (ks : List NestedKey) (k : NestedKey) : List NestedKey := if ks.any (fun x => decide (x = k)) then ks else ks ++ [k]
/-- d[y] = True, y a tuple worth k -/
def sNPut (w : World) (td ty tv : TE) : TS := fun D σ H => tv σ H fun v H1 => td σ H1 fun x H2 => ty σ H2 fun y H3 => ∃ a b kas k F, x = .ref a ∧ y = .ref b ∧ v = .bl true ∧ H3 a = some (NDO w a kas) ∧ Ex F H3 ∧ Rp F (.ref b) (nD k) ∧ (∀ q ∈ kas, Rp F (.ref q.2) (nD q.1)) ∧ NestedKey.depth k ≤ 8 ∧ kas.length < sizeLine ∧ D.nx σ (upd H3 a (NDO w a (putN kas k b)))
mutual
theorem nk_is {X : Cx} {pins : List (Addr × Obj)} {s : Shared} {σ : St} {H F : Hp} (I : Inv X pins σ H s) (e : Ex F H) : ∀ (k : NestedKey) (v : V) (u : Value), Rp F v (nD k) → RelV v u → NestedIs s.heap k u
  | .none, _, _, h, r => by
    rw [nD] at h
    cases h
    obtain rfl : _ = Value.none := r
    exact .none
  | .num i, _, _, h, r => by
    rw [nD] at h
    cases h
    obtain ⟨t, rfl⟩ := r
    exact .int i t
  | .text x, _, _, h, r => by
    rw [nD] at h
    cases h
    obtain ⟨t, rfl⟩ := r
    exact .text x t
  | .tup ks, _, _, h, r => by
    rw [nD] at h
    cases h with
    | tup ea rr =>
      obtain rfl : _ = Value.ref _ := r
      obtain ⟨_, its, rv, o, ho, hc, n, hd⟩ := (show ObjOk X.prog X.w H s.heap _ (.tup _) from I.hok _ _ (e _ _ ea))
      exact .tup ho hc hd (by simpa using nk_isA I e ks _ _ rr rv)
theorem nk_isA {X : Cx} {pins : List (Addr × Obj)} {s : Shared} {σ : St} {H F : Hp} (I : Inv X pins σ H s) (e : Ex F H) : ∀ (ks : List NestedKey) (vs : List V) (us : List Value), RpA F vs (nDs ks) → Vals vs us → NestedAll s.heap ks us
  | [], _, _, h, r => by
    rw [nDs] at h
    cases h
    cases r
    exact .nil
  | k :: ks, _, _, h, r => by
    rw [nDs] at h
    cases h with
    | cons h1 h2 =>
      cases r with
      | cons r1 r2 => exact .cons (nk_is I e k _ _ h1 r1) (nk_isA I e ks _ _ h2 r2)
end
def liftN (kas : List (NestedKey × Addr)) : List (NestedKey × Addr × Value) := kas.map fun q => (q.1, q.2, .bool true)
theorem find_any {α : Type} (p : α → Bool) : ∀ l : List α, (l.find? p).isSome = l.any p
  | [] => rfl
  | x :: l => by
    rw [List.find?_cons, List.any_cons]
    cases p x with
    | true => rfl
    | false => exact find_any p l
theorem atKey_lift (kas : List (NestedKey × Addr)) (k : NestedKey) : (atKey (liftN kas) k).isSome = (kas.map (·.1)).any (fun x => decide (x = k)) := by
  unfold atKey liftN
  rw [Option.isSome_map, find_any, List.any_map, List.any_map]
  rfl
theorem stored_lift (kas : List (NestedKey × Addr)) (k : NestedKey) (b : Addr) : storedH (liftN kas) k b (.bool true) = liftN (putN kas k b) := by
  unfold storedH putN
  rw [atKey_lift]
  split
  · unfold liftN
    rw [List.map_map]
    refine List.map_congr_left fun q _ => ?_
    show putAt k (.bool true) (q.1, q.2, .bool true) = _
    unfold putAt
    split <;> rfl
  · unfold liftN
    rw [List.map_append] <;> rfl
theorem putN_keys (kas : List (NestedKey × Addr)) (k : NestedKey) (b : Addr) : (putN kas k b).map (·.1) = insN (kas.map (·.1)) k := by
  unfold putN insN
  split
  · rfl
  · rw [List.map_append] <;> rfl
theorem putN_len (kas : List (NestedKey × Addr)) (k : NestedKey) (b : Addr) : (putN kas k b).length ≤ kas.length + 1 := by
  unfold putN
  split
  · exact Nat.le_succ _
  · rw [List.length_append] <;> exact Nat.le_refl _
theorem putN_mem {kas : List (NestedKey × Addr)} {k : NestedKey} {b : Addr} {q : NestedKey × Addr} (h : q ∈ putN kas k b) : q ∈ kas ∨ q = (k, b) := by
  unfold putN at h
  split at h
  · exact .inl h
  · rcases List.mem_append.mp h with h | h
    · exact .inl h
    · exact .inr (List.mem_singleton.mp h)
theorem ps_dputN {X : Cx} {w : World} {o i value : Expr} {pos pos' : Pos} {td ty tv : TE} (hu : X.A.units + 64 < cLine) (hw : X.w = w) (ho : PE X o td) (hi : PE X i ty) (hv : PE X value tv) (hs : swapsWith value (some (.Subscript o i pos')) pos.line X.env = pure false) :
    PS X (.Assign [.Subscript o i pos'] value pos) (sNPut w td ty tv) := by
  subst hw
  refine ⟨fun pins s σ H D I h => ?_⟩
  refine wpAny_Assign_Subscript (thn (hv.run pins s σ H _ I h) fun r s1 ⟨v, H1, I1, rv, q1⟩ => thn (ho.run pins s1 σ H1 _ I1 q1) fun u s2 ⟨x, H2, I2, rx, q2⟩ => thn (hi.run pins s2 σ H2 _ I2 q2) fun iv s3 ⟨y, H3, I3, ry, a, b, kas, k, F, ex, ey, ev, hH, eF, rk, rks, hdep, hlt, q3⟩ => ?_) hs
  subst ex ey ev
  obtain rfl : u = Value.ref a := rx
  obtain rfl : iv = Value.ref b := ry
  obtain rfl : r = Value.bool true := rv
  obtain ⟨⟨lo, hz, nd, dp, ob, es, ep, e, xd, hd, hes⟩, _, _⟩ := (show ObjOk X.prog X.w H3 s3.heap a (NDO X.w a kas) from I3.hok a _ hH)
  have hm : s3.heap.DictOfH (nestedKind X.prog X.w) a (liftN kas) := ⟨ob, es, ep, e, xd, hd, by rw [hes]; unfold liftN; rw [List.map_map] <;> rfl, fun x hx => by
    obtain ⟨q, hq, rfl⟩ := List.mem_map.mp hx
    exact ⟨nk_is I3 eF q.1 _ _ (rks q hq) rfl, dp q hq⟩, by unfold liftN; rw [List.map_map]; exact nd⟩
  refine wpAny_setItem_heap (knd := nestedKind X.prog X.w) (k := k) (xs := liftN kas) (hsz := by unfold liftN; rw [List.length_map]; omega) (by show X.A.units + 1 + 8 < cLine; omega) ⟨nk_is I3 eF k _ _ rk rfl, hdep⟩ hm fun h' hm' hs' => ?_
  rw [stored_lift] at hm'
  obtain ⟨o', es', ep', e', xd', hd', hes', _, nd'⟩ := hm'
  refine ⟨σ, upd H3 a (NDO X.w a (putN kas k b)), I3.write (x := a) (e := a) (t' := s3.toks + (nestedKind X.prog X.w).draws k) (by rw [hH]; exact True.intro) (.inl rfl) (fun c u hc z => hs'.extBut _ _ hc z) ⟨_, e'⟩ (nd_ok ⟨lo, Nat.le_trans (putN_len _ _ _) hlt, ?_, fun q hq => ?_, o', es', ep', e', xd', hd', ?_⟩), q3⟩
  · unfold liftN at nd'
    rw [List.map_map] at nd'
    exact nd'
  · rcases putN_mem hq with hq | rfl
    · exact dp q hq
    · exact hdep
  · rw [hes']
    unfold liftN
    rw [List.map_map] <;> rfl
def rSortedN (w : World) (K : PySem.W.Frag) : List V → Hp → VK → Prop := fun vs H Q => ∃ (a : Addr) (kas : List (NestedKey × Addr)) (ps : List (V × PyData)), vs = [.ref a] ∧ H a = some (NDO w a kas) ∧ kas.length ≤ 100000 ∧ ps.map (·.1) = kas.map (fun q => V.ref q.2) ∧ (∀ p ∈ ps, Dp K H p.1 p.2) ∧ AllAlike (ps.map (·.2)) ∧ Sortable (ps.map (·.2)) ∧ (∀ p ∈ ps, p.2.depth ≤ 60) ∧
  ∀ q, H q = none → Q (.ref q) (upd H q (.lst ((ps.mergeSort fun a b => !dataLt b.2 a.2).map (·.1))))
theorem vals_refsN : ∀ as : List Addr, Vals (as.map V.ref) (as.map Value.ref)
  | [] => .nil
  | a :: as => .cons rfl (vals_refsN as)
theorem cr_sortedN {X : Cx} {w : World} (hc : X.calm = true) (hu : X.A.units + 64 < cLine) (hw : X.w = w) : CallR X (.builtin "sorted") (rSortedN w X.K) := by
  subst hw
  intro pins s σ H vs us Q I r h
  obtain ⟨a, kas, ps, rfl, hH, hl, hps, hd, hal, hso, hdp, q⟩ := h
  rw [Vals.ref1 r]
  obtain ⟨⟨lo, hz, nd, dp, ob, es, ep, e, xd, hdd, hes⟩, _, _⟩ := (show ObjOk X.prog X.w H s.heap a (NDO X.w a kas) from I.hok a _ hH)
  have hsz : es.size = kas.length := by rw [← Array.length_toList, hes, List.length_map]
  refine sorted_raw hc hu I lo ⟨ob, e, xd, hdd⟩ (by rw [hsz]; exact hl) ps ?_ hd hal hso hdp q
  rw [hps, hes, List.map_map]
  have := vals_refsN (kas.map (·.2))
  rw [List.map_map, List.map_map] at this
  exact this
/-! ### over data -/
theorem nDs_map : ∀ ks : List NestedKey, nDs ks = ks.map nD
  | [] => by rw [nDs]; rfl
  | k :: ks => by rw [nDs, nDs_map ks] <;> rfl
section
variable {K : PySem.W.Frag} {w : World} {env : Env} {te ta tb ty tv : TE} {d : D} {D' : DE}
theorem evN_dN : EvN (tDNewN w) env (.dN w []) := fun B N F H σ R Q q p hp => q p F _ (Gr.loose R.fh hp) hp (Evl.fresh_back R.fh hp) ⟨[], upd_same, rfl, by rw [nDs]; exact .nil⟩
theorem rpA_keys {F : Hp} : ∀ (kas : List (NestedKey × Addr)), RpA F (kas.map fun q => V.ref q.2) (nDs (kas.map (·.1))) → ∀ q ∈ kas, Rp F (.ref q.2) (nD q.1)
  | [], _, q, hq => nomatch hq
  | p :: kas, h, q, hq => by
    rw [List.map_cons, List.map_cons, nDs] at h
    cases h with
    | cons h1 h2 =>
      rcases List.mem_cons.mp hq with rfl | hq
      · exact h1
      · exact rpA_keys kas h2 q hq
theorem wps_dputN {i : Nat} {q : Option Addr} {ks kk : List NestedKey} (hi : env[i]? = some (.ow q (.dN w ks))) (h : Ev tv env (.bl true)) (hk : Ev ty env (nD (.tup kk))) (hdep : NestedKey.depth (.tup kk) ≤ 8) (hn : ks.length < 100000) (k : D'.nx (env.set i (.ow q (.dN w (insN ks (.tup kk)))))) : wpS (sNPut w (tVar i) ty tv) env D' := fun B N F H σ R De l => by
  obtain ⟨p, hp, _, _, ⟨kas, hv, rfl, r2⟩, _⟩ := R.own hi
  refine h B N F H σ R _ fun v F1 H1 g1 rv => ⟨_, slot_of hp, hk B N F1 H1 σ (R.grow g1) _ fun u F2 H2 g2 rk => ?_⟩
  have gg := g1.trans g2
  cases rv
  have rk0 := rk
  rw [nD] at rk
  cases rk with
  | @tup b us _ eb s =>
    have r3 := r2.mono gg.ff
    have hv2 := gg.hh _ _ hv
    refine ⟨p, b, kas, .tup kk, F2, rfl, rfl, rfl, hv2, g2.fh, rk0, rpA_keys kas r3, hdep, ?_, ?_⟩
    · rw [List.length_map] at hn
      exact Nat.lt_of_lt_of_le hn (by decide)
    · refine l.nx F2 _ σ _ gg.ff ((R.grow gg).mut (d' := .dN w (insN (kas.map (·.1)) (.tup kk))) hi hp ⟨putN kas (.tup kk) b, upd_same, putN_keys _ _ _, ?_⟩) k
      unfold putN insN
      split
      · exact r3
      · rw [List.map_append, nDs_map, List.map_append, ← nDs_map]
        exact r3.append (.cons rk0 .nil)
theorem rcn_sortedN {ks : List NestedKey} {n : Nat} (hl : ks.length ≤ 100000) (h : D.plA (nDs ks) n = true) (hn : n ≤ 60) (hal : AllAlike ((nDs ks).map D.py)) (hso : Sortable ((nDs ks).map D.py)) : RCN (rSortedN w K) [.dN w ks] (.lst (sortD (nDs ks))) := fun F H vs e rv Q q => by
  cases rv with
  | cons r rn =>
    cases rn
    cases r with
    | @dN a _ kas _ ea hk r =>
      subst hk
      generalize hds : nDs (kas.map (·.1)) = ds at *
      generalize hws : (kas.map fun q => V.ref q.2) = ws at *
      have hl2 := r.length
      have z := RpA.zip (K := K) e n r h
      have m1 : (ws.zip ds).map (·.1) = ws := List.map_fst_zip (by omega)
      have m2 : (ws.zip ds).map (·.2) = ds := List.map_snd_zip (by omega)
      let f : V × D → V × PyData := fun p => (p.1, p.2.py)
      have c1 : ((ws.zip ds).map f).map (·.1) = ws := by rw [List.map_map]; exact m1
      have c2 : ((ws.zip ds).map f).map (·.2) = ds.map D.py := by
        rw [List.map_map]
        have : ((fun p : V × PyData => p.2) ∘ f) = D.py ∘ fun p : V × D => p.2 := rfl
        rw [this, ← List.map_map, m2]
      refine ⟨a, kas, (ws.zip ds).map f, rfl, e _ _ ea, by rwa [List.length_map] at hl, by rw [c1, hws], fun p hp => ?_, by rw [c2]; exact hal, by rw [c2]; exact hso, fun p hp => ?_, fun p hp => ?_⟩
      · obtain ⟨w, hw, rfl⟩ := List.mem_map.mp hp
        exact (z w hw).1
      · obtain ⟨w, hw, rfl⟩ := List.mem_map.mp hp
        have hm : w.2 ∈ ds := (List.of_mem_zip (show (w.1, w.2) ∈ ws.zip ds from hw)).2
        rw [plA_all] at h
        have := (py_lay w.2 n (List.all_eq_true.mp h _ hm)).2
        show w.2.py.depth ≤ 60
        omega
      · have s1 : (((ws.zip ds).map f).mergeSort fun a b => !dataLt b.2 a.2) = ((ws.zip ds).mergeSort fun a b => !dataLt b.2.py a.2.py).map f := (List.map_mergeSort (f := f) (l := ws.zip ds) (fun _ _ _ _ => rfl)).symm
        have s2 : ((ws.zip ds).mergeSort fun a b => !dataLt b.2.py a.2.py).map (·.2) = sortD ds := by
          unfold sortD
          rw [List.map_mergeSort (s := fun a b : D => !dataLt b.py a.py) (fun _ _ _ _ => rfl), m2]
        refine q p F _ (Gr.loose e hp) hp (Evl.fresh_back e hp) ⟨_, upd_same, ?_⟩
        rw [s1, List.map_map, ← s2]
        exact rpA_of _ fun w hw => (z w ((List.mergeSort_perm _ _).mem_iff.mp hw)).2
end
section
variable {X : Cx} {K : PySem.W.Frag} {w : World}
theorem k_sortedN (hK : X.K = K) (hc : X.calm = true) (hu : X.A.units + 64 < cLine) (hw : X.w = w) : CallR X (.builtin "sorted") (rSortedN w K) := by subst hK; exact cr_sortedN hc hu hw
end
end DL

/-! DL16: defs that hand back a new object of one's own; comprehensions and loops over range whose parts change one own object. -/
namespace DL
open PySem L2
open Evl (Ex)
section
variable {K : PySem.W.Frag} {env : Env} {te ta tb : TE} {d x y : D} {ds es : List D} {D' : DE}
/-! ### a new object is handed back -/
def spN (S : List D → (D → Prop) → Prop) : Sp := fun vs H Q _ => ∃ F ds, Ex F H ∧ RpA F vs ds ∧ S ds fun d => ∀ p F' H', Gr F H F' H' → H p = none → F' p = none → OwnAt F' H' p d → Q (.ref p) H'
theorem evN_call {S : List D → (D → Prop) → Prop} {E : XK} {ta : TA} (h : EvA ta env ds) (hs : ∀ k : D → Prop, k d → S ds k) : EvN (tCall (spN S) [] E ta) env d := fun B N F H σ R Q q =>
  h B N F H σ R _ fun vs F1 H1 g1 r1 => ⟨F1, ds, g1.fh, by rw [List.append_nil]; exact r1, hs _ fun p F2 H2 g2 hp hf o => q p F2 H2 (g1.trans g2) (gr_none g1 hp) hf o⟩
/-- the statements end in the return of a new object -/
def wpN (t : TS) (env : Env) (k : D → Prop) : Prop := ∀ B N F H σ, Rel B N F H σ env → ∀ De : Ends,
  (∀ p d F1 H1 σ1 e1 F' H', Ex F F1 → Rel B N F1 H1 σ1 e1 → Gr F1 H1 F' H' → H1 p = none → F' p = none → OwnAt F' H' p d → k d → De.rt (.ref p) H') → t De σ H
theorem wpn_seq {t u : TS} {k : D → Prop} (h : wpS t env { nx := fun e => wpN u e k, rt := fun _ _ => False }) : wpN (tSeq t u) env k := fun B N F H σ R De l =>
  h B N F H σ R _ ⟨fun F' H' σ' e' ex R' hn => hn B N F' H' σ' R' De fun p d F1 H1 σ1 e1 F2 H2 a b c => l p d F1 H1 σ1 e1 F2 H2 (ex.trans a) b c, fun _ _ _ _ _ _ _ _ _ z => z.elim, fun _ _ _ _ _ _ z => z.elim, fun _ _ _ _ _ _ z => z.elim⟩
theorem wpn_ret {k : D → Prop} (h : EvN te env d) (hk : k d) : wpN (tRet te) env k := fun B N F H σ R De l =>
  h B N F H σ R _ fun p F1 H1 g1 hp hf o => l p d F H σ env F1 H1 (Ex.refl _) R g1 hp hf o hk
theorem body_ofN {S : List D → (D → Prop) → Prop} {N ps : List Str} {t : TS} {vs : List V} {H : Hp} {Q : VK} {E : XK} (hps : ps.length ≤ N.length) (h : spN S vs H Q E) (hl : ∀ ds k, S ds k → ds.length = ps.length)
    (hw : ∀ ds k, S ds k → wpN t (init N ds) k) : t { nx := fun _ H' => Q .non H', rt := Q } (L2.start N vs) H := by
  obtain ⟨F, ds, fh, r, hs⟩ := h
  have hlen := hl ds _ hs
  have gr : ∀ F' H' σ' env', Ex F F' → Rel H (fun a => F a ≠ none ∨ H a = none) F' H' σ' env' → Gr F H F' H' := fun F' H' σ' env' e R => ⟨e, R.fh, R.bh, fun a o q => by
    rcases R.fn a o q with (z | z) | z
    · cases w : F a with
      | none => exact (z w).elim
      | some u =>
        have := e a u w
        rw [q] at this
        exact .inl this.symm
    · exact .inr (.inl z)
    · exact .inr (.inr z)⟩
  refine hw ds _ hs H (fun a => F a ≠ none ∨ H a = none) F H (L2.start N vs) ⟨fh, Ex.refl _, fun a o e => .inl (.inl (by rw [e]; exact fun z => nomatch z)), fun a e => .inr e, ?_, fun i s e => r.fz (by omega) e, fun i j q q' d d' p e1 e2 => ?_⟩ _
    fun p d F1 H1 σ1 e1 F' H' e R1 g hp hf o k => k p F' H' ((gr F1 H1 σ1 e1 e R1).trans g) (Evl.fresh_back R1.bh hp) hf o
  · unfold L2.start init
    simp [r.length]
  · exfalso
    have e1' : (ds.map Sl.fz ++ List.replicate (N.length - ds.length) Sl.no)[i]? = some (Sl.ow q d) := e1
    by_cases c : i < ds.length
    · rw [List.getElem?_append_left (by simpa using c), List.getElem?_map] at e1'
      have e : ds[i]? = some ds[i] := by simp [c]
      rw [e] at e1'
      cases e1'
    · rw [List.getElem?_append_right (by simpa using c)] at e1'
      have := List.eq_of_mem_replicate (List.mem_of_getElem? e1')
      cases this
theorem fn_okN {P : Program} {w : World} {K : PySem.W.Frag} {mg : Str → Option Value} {base : Heap} {x qual : Str} {st : Stmt} {f : Addr} {fd : FuncData} {N ps : List Str} {k : Nat} {S : List D → (D → Prop) → Prop} (F : Fun K x qual st f fd) (sc : FnScope N ps (defScope st))
    (hl : ∀ ds k, S ds k → ds.length = ps.length) (hps : ps.length ≤ N.length)
    (hb : ∀ (cdv : Value) (A : Around) (outer : List PySem.Env) (s : Shared) (H : Hp) (E : XK), Room k (A.deeper (PyProof.Rows.envOfC qual (defScope st) s.heap.objs.size f cdv)) →
      ∃ t, PSs (cxOf CX0 P w K mg base N qual (defScope st) f cdv A outer s H E).nox (defBody st) t ∧ ∀ ds kk, S ds kk → wpN t (init N ds) kk) : FnOk P w K mg base CX0 (k + 1) f fd ps (spN S) := by
  refine F.ok sc (fun vs H Q E h => ?_) (fun cdv A outer s H vs Q E hr h => ?_)
  · obtain ⟨F, ds, _, r, hs⟩ := h
    rw [r.length]
    exact hl ds _ hs
  · obtain ⟨t, ht, hw⟩ := hb cdv A outer s H E hr
    exact ⟨t, ht, body_ofN (ps := ps) hps h hl hw⟩
/-! ### a new list among what is kept -/
theorem Rel.under {B : Hp} {N : Addr → Prop} {F H : Hp} {σ : St} (R : Rel B N F H σ env) {Dl : Addr} {ac : List V} (hD : H Dl = none) : Rel (upd B Dl (.lst ac)) (fun a => N a ∧ a ≠ Dl) F (upd H Dl (.lst ac)) σ env := by
  have hF : F Dl = none := Evl.fresh_back R.fh hD
  have hB : B Dl = none := Evl.fresh_back R.bh hD
  refine ⟨fun a o h => ?_, fun a o h => ?_, fun a o h => ?_, fun a h => ?_, R.len, fun j s h => ?_, R.ds⟩
  · rw [upd_ne (fun c => by subst c; rw [hF] at h; cases h)]
    exact R.fh a o h
  · by_cases c : a = Dl
    · subst c
      rw [upd_same] at h ⊢
      exact h
    · rw [upd_ne c] at h ⊢
      exact R.bh a o h
  · have c : a ≠ Dl := fun c => by subst c; rw [hF] at h; cases h
    rcases R.fn a o h with w | w
    · exact .inl ⟨w, c⟩
    · exact .inr w
  · have c : a ≠ Dl := fun c => by subst c; rw [upd_same] at h; cases h
    rw [upd_ne c] at h
    exact ⟨R.bn a h, c⟩
  · have hs := R.sl j s h
    cases s with
    | no => trivial
    | fz d => exact hs
    | lk p d =>
      obtain ⟨e1, od, u, e2, e3⟩ := hs
      have hp : p ≠ Dl := fun c => by subst c; rw [hB] at e2; cases e2
      exact ⟨e1, od, u, by rw [upd_ne hp]; exact e2, e3⟩
    | ow z d =>
      obtain ⟨p, e1, e2, e3, e4, e5⟩ := hs
      have hp : p ≠ Dl := by
        rintro rfl
        obtain ⟨w, hw, _⟩ := e4.there
        rw [hD] at hw
        cases hw
      refine ⟨p, e1, by rw [upd_ne hp]; exact e2, e3, e4.mono (Ex.refl _) fun o z => by rw [upd_ne hp]; exact z, ?_⟩
      cases z with
      | none => exact ⟨e5, hp⟩
      | some y => exact e5
theorem Rel.over {B : Hp} {N : Addr → Prop} {F H : Hp} {σ : St} {Dl : Addr} {ac : List V} (R : Rel (upd B Dl (.lst ac)) (fun a => N a ∧ a ≠ Dl) F H σ env) (hB : B Dl = none) (hN : N Dl) (r : RpA F ac ds) : ∃ F', Ex F F' ∧ Rel B N F' H σ env ∧ Rp F' (.ref Dl) (.lst ds) := by
  have hd : H Dl = some (.lst ac) := R.bh Dl _ upd_same
  have hF : F Dl = none := by
    cases c : F Dl with
    | none => rfl
    | some o =>
      rcases R.fn Dl o c with w | w
      · exact absurd rfl w.2
      · have e := R.fh Dl o c
        rw [hd] at e
        cases e
        exact w.elim
  have ex : Ex F (upd F Dl (.lst ac)) := Ex.new hF
  refine ⟨_, ex, ⟨fun a o h => ?_, fun a o h => ?_, fun a o h => ?_, fun a h => (R.bn a h).1, R.len, fun j s h => ?_, R.ds⟩, .lst upd_same (r.mono ex)⟩
  · by_cases c : a = Dl
    · subst c
      rw [upd_same] at h
      cases h
      exact hd
    · rw [upd_ne c] at h
      exact R.fh a o h
  · have c : a ≠ Dl := fun c => by subst c; rw [hB] at h; cases h
    exact R.bh a o (by rw [upd_ne c]; exact h)
  · by_cases c : a = Dl
    · subst c
      exact .inl hN
    · rw [upd_ne c] at h
      rcases R.fn a o h with w | w
      · exact .inl w.1
      · exact .inr w
  · have hs := R.sl j s h
    cases s with
    | no => trivial
    | fz d => obtain ⟨u, a, b⟩ := hs; exact ⟨u, a, b.mono ex⟩
    | lk p d =>
      obtain ⟨e1, od, u, e2, e3⟩ := hs
      have hp : p ≠ Dl := fun c => by subst c; rw [upd_same] at e2; cases e2
      exact ⟨e1, od, u, by rw [upd_ne hp] at e2; exact e2, e3.mono ex⟩
    | ow z d =>
      obtain ⟨p, e1, e2, e3, e4, e5⟩ := hs
      have hp : p ≠ Dl := fun c => by subst c; rw [upd_same] at e2; cases e2
      refine ⟨p, e1, by rw [upd_ne hp] at e2; exact e2, by rw [upd_ne hp]; exact e3, e4.mono ex fun o z => z, ?_⟩
      cases z with
      | none => exact e5.1
      | some y => exact e5
theorem wipeD_out {m : Nat} : ∀ {vs : List Nat} {env : Env}, m ∉ vs → (wipeD env vs)[m]? = env[m]?
  | [], _, _ => rfl
  | v :: vs, env, h => by
    rw [wipeD, List.getElem?_set_ne (fun c => h (by rw [← c]; exact List.mem_cons_self))]
    exact wipeD_out fun z => h (List.mem_cons_of_mem _ z)
/-- back from the comprehension's names: only slot i0 has changed -/
theorem Rel.back {B : Hp} {N : Addr → Prop} {F0 H0 F H : Hp} {σ σ3 : St} {i0 j : Nat} {q : Option Addr} {d0 d1 x0 : D} {vs : List Nat} (hi : env[i0]? = some (.ow q d0)) (h0 : i0 ∉ vs) (hj : j ∈ vs) (hvs : ∀ v ∈ vs, ∀ q d, env[v]? ≠ some (.ow q d))
    (R0 : Rel B N F0 H0 σ (env.set i0 (.ow q d))) (ex : Ex F0 F) (R : Rel B N F H σ3 ((wipeD (env.set i0 (.ow q d1)) vs).set j (.fz x0))) (hσ : ∀ m, m ∉ vs → σ3[m]? = σ[m]?) : Rel B N F H σ (env.set i0 (.ow q d1)) := by
  have hl : i0 < env.length := (List.getElem?_eq_some_iff.mp hi).1
  have out : ∀ m, m ∉ vs → ((wipeD (env.set i0 (.ow q d1)) vs).set j (.fz x0))[m]? = (env.set i0 (.ow q d1))[m]? := fun m hm => by
    rw [List.getElem?_set_ne (fun c => hm (by rw [← c]; exact hj)), wipeD_out hm]
  have owOut : ∀ m q' d', (env.set i0 (.ow q d1))[m]? = some (.ow q' d') → m ∉ vs := fun m q' d' e hm => by
    by_cases c : i0 = m
    · subst c; exact h0 hm
    · rw [List.getElem?_set_ne c] at e
      exact hvs m hm q' d' e
  refine ⟨R.fh, R.bh, R.fn, R.bn, by rw [R0.len, List.length_set, List.length_set], fun m s e => ?_, fun m m' q1 q2 x1 x2 p e1 e2 f1 f2 => ?_⟩
  · cases s with
    | no => trivial
    | fz z =>
      have c : i0 ≠ m := by
        rintro rfl
        rw [List.getElem?_set_self hl] at e
        cases e
      rw [List.getElem?_set_ne c] at e
      obtain ⟨u, a, b⟩ := R0.sl m _ (by rw [List.getElem?_set_ne c]; exact e)
      exact ⟨u, a, b.mono ex⟩
    | lk p z =>
      have c : i0 ≠ m := by
        rintro rfl
        rw [List.getElem?_set_self hl] at e
        cases e
      rw [List.getElem?_set_ne c] at e
      obtain ⟨a, od, u, b, c⟩ := R0.sl m _ (by rw [List.getElem?_set_ne c]; exact e)
      exact ⟨a, od, u, b, c.mono ex⟩
    | ow z x =>
      have hm := owOut m z x e
      have := R.sl m _ (by rw [out m hm]; exact e)
      rw [hσ m hm] at this
      exact this
  · have h1 := owOut m q1 x1 e1
    have h2 := owOut m' q2 x2 e2
    exact R.ds m m' q1 q2 x1 x2 p (by rw [out m h1]; exact e1) (by rw [out m' h2]; exact e2) (by rw [hσ m h1]; exact f1) (by rw [hσ m' h2]; exact f2)
/-- [elt for x in range(n)], n and elt change the own object in slot i0 -/
theorem wpe_lcR {vs : List Nat} {i0 j : Nat} {q : Option Addr} {d0 : D} {ta : TA} {k : D → Env → Prop} (P : D → Prop) (T : D → Prop) (M : Nat → Prop) (hi : env[i0]? = some (.ow q d0)) (h0 : i0 ∉ vs) (hj : j ∈ vs) (hvs : ∀ v ∈ vs, ∀ q d, env[v]? ≠ some (.ow q d))
    (hta : wpA ta env fun ds e => ∃ (n : Nat) (d : D), ds = [.int (n : Int)] ∧ M n ∧ n ≤ 1000 ∧ P d ∧ e = env.set i0 (.ow q d))
    (hte : ∀ (d : D) (a : Int), P d → wpE te ((wipeD (env.set i0 (.ow q d)) vs).set j (.fz (.int a))) fun x e => ∃ d' : D, T x ∧ P d' ∧ e = (wipeD (env.set i0 (.ow q d')) vs).set j (.fz (.int a)))
    (hk : ∀ (n : Nat) (xs : List D) (d : D), M n → xs.length = n → (∀ x ∈ xs, T x) → P d → k (.lst xs) (env.set i0 (.ow q d))) : wpE (tLc (iRng1 ta) (gName j) tYes te vs) env k := fun B N F H σ R Q qq =>
  hta B N F H σ R _ fun us ds e F1 H1 f1 R1 r1 ⟨n, d, eds, hM, hn, hPd, ee⟩ => by
    subst eds ee
    cases r1 with
    | cons ra rn =>
      cases rn
      cases ra
      refine ⟨(n : Int), rfl, by omega, by omega, fun Dl hD => ?_⟩
      have hB : B Dl = none := Evl.fresh_back R1.bh hD
      have hN : N Dl := R1.bn Dl hD
      refine ⟨fun i m H2 => m = n - i ∧ i ≤ n ∧ ∃ F2 acc xs d, Ex F1 F2 ∧ Rel (upd B Dl (.lst acc)) (fun a => N a ∧ a ≠ Dl) F2 H2 σ (env.set i0 (.ow q d)) ∧ RpA F2 acc xs ∧ xs.length = i ∧ (∀ x ∈ xs, T x) ∧ P d,
        ⟨n, rfl, Nat.zero_le _, F1, [], [], d, Ex.refl _, R1.under hD, .nil, rfl, (fun x hx => nomatch hx), hPd⟩, ?_⟩
      rintro i m H2 ⟨rfl, hle, F2, acc, xs, d2, e2, R2, ra, hxl, hT, hP2⟩
      by_cases hlt : i < n
      · refine .inr ⟨show i < ((n : Int)).toNat by omega, fun H3 => ∃ F2 acc xs d, Ex F1 F2 ∧ Rel (upd B Dl (.lst acc)) (fun a => N a ∧ a ≠ Dl) F2 H3 σ (env.set i0 (.ow q d)) ∧ RpA F2 acc xs ∧ xs.length = i + 1 ∧ (∀ x ∈ xs, T x) ∧ P d,
          fun H3 h => ⟨n - (i + 1), by omega, rfl, hlt, h⟩, fun x H3 ⟨eh, hx⟩ => ?_⟩
        subst eh hx
        have R3 := (R2.wipe vs).set (i := j) (v := .int (0 + (i : Int))) (d := .int (0 + (i : Int))) (.int _)
        show L2.wipe ((L2.wipe σ vs).set j (some (.int (0 + (i : Int))))) vs = L2.wipe σ vs ∧ _
        have hout : ∀ m, m ∉ vs → ((L2.wipe σ vs).set j (some (V.int (0 + (i : Int)))))[m]? = σ[m]? := fun m hm => by
          rw [List.getElem?_set_ne (fun c => hm (by rw [← c]; exact hj)), wipe_get hm]
        refine ⟨wipe_same (by rw [List.length_set, wipe_length]) hout, ?_⟩
        dsimp only [tYes]
        rw [if_pos rfl]
        refine hte d2 (0 + (i : Int)) hP2 _ _ F2 H3 _ R3 _ fun y x e F5 H5 f5 R5 r5 ⟨d', hTx, hP', ee⟩ => ?_
        subst ee
        have hd5 : H5 Dl = some (.lst acc) := R5.bh Dl _ upd_same
        have R6 := Rel.back hi h0 hj hvs R2 f5 R5 hout
        have hF5 : F5 Dl = none := by
          cases c : F5 Dl with
          | none => rfl
          | some o =>
            rcases R5.fn Dl o c with w | w
            · exact absurd rfl w.2
            · have e := R5.fh Dl o c
              rw [hd5] at e
              cases e
              exact w.elim
        have hal : acc.length = i := by rw [ra.length, hxl]
        refine ⟨acc, hd5, Nat.lt_of_lt_of_le (by omega : acc.length < 1000) (by decide), F5, acc ++ [y], xs ++ [x], d', e2.trans f5, R6.bump hF5, (ra.mono f5).append (.cons r5 .nil), by simp [hxl], fun z hz => ?_, hP'⟩
        rcases List.mem_append.mp hz with hz | hz
        · exact hT z hz
        · rw [List.mem_singleton.mp hz]; exact hTx
      · have hin : i = n := by omega
        subst hin
        obtain ⟨F3, e3, R3, r3⟩ := R2.over hB hN ra
        exact .inl ⟨show ((i : Int)).toNat ≤ i by omega, qq (.ref Dl) (.lst xs) _ F3 H2 ((f1.trans e2).trans e3) R3 r3 (hk i xs d2 hM hxl hT hP2)⟩
/-- for x in range(n), n changes own objects -/
theorem wps_forRE {j : Nat} {ta : TA} {tb : TS} (I : Nat → Nat → Env → Prop) (hta : wpA ta env fun ds e => ∃ n : Nat, ds = [.int (n : Int)] ∧ n ≤ 1000 ∧ I n 0 e)
    (turn : ∀ n i e1, i < n → I n i e1 → wpS tb (e1.set j (.fz (.int (0 + (i : Int))))) { D' with nx := I n (i + 1), ct := I n (i + 1), bk := D'.nx }) (done : ∀ n e1, I n n e1 → D'.nx e1) : wpS (tFor (iRng1 ta) (gName j) tb) env D' := fun B N F H σ R De l =>
  hta B N F H σ R _ fun us ds e F1 H1 f1 R1 r1 ⟨n, eds, hn, hI⟩ => by
    subst eds
    cases r1 with
    | cons ra rn =>
      cases rn
      cases ra
      have l1 := l.mono f1
      refine ⟨(n : Int), rfl, by omega, by omega, fun i m σ2 H2 => m = n - i ∧ i ≤ n ∧ ∃ F2 env2, Ex F1 F2 ∧ Rel B N F2 H2 σ2 env2 ∧ I n i env2, ⟨n, by simp, Nat.zero_le _, F1, e, Ex.refl _, R1, hI⟩, ?_⟩
      rintro i m σ2 H2 ⟨rfl, hle, F2, env2, ex, R2, p⟩
      by_cases hlt : i < n
      · refine .inr ⟨show i < ((n : Int)).toNat by omega, fun σ3 H3 => ∃ F3 env3, Ex F1 F3 ∧ Rel B N F3 H3 σ3 env3 ∧ I n (i + 1) env3, fun σ3 H3 ⟨F3, env3, a1, a2, a3⟩ => ⟨n - (i + 1), by omega, rfl, hlt, F3, env3, a1, a2, a3⟩, fun x H3 ⟨eh, hx⟩ => ?_⟩
        subst eh hx
        have R3 := R2.set (i := j) (v := .int (0 + (i : Int))) (d := .int (0 + (i : Int))) (.int _)
        exact turn n i env2 hlt p B N F2 H3 _ R3 _ ⟨fun F' H' σ' env' a b c => ⟨F', env', ex.trans a, b, c⟩, (l1.mono ex).rt, (l1.mono ex).nx, fun F' H' σ' env' a b c => ⟨F', env', ex.trans a, b, c⟩⟩
      · have hin : i = n := by omega
        subst hin
        exact .inl ⟨show ((i : Int)).toNat ≤ i by omega, l1.nx F2 H2 σ2 env2 ex R2 (done i env2 p)⟩
end
end DL

/-! DL17: isinstance; items of a list or a tuple; list * int; tuple(own list). -/
namespace DL
open PySem L2
open Evl (Ex)
section
variable {K : PySem.W.Frag} {env : Env} {te ta tb ti : TE} {d x y : D} {ds es : List D} {D' : DE}
def hasTy : D → Bool
  | .ty _ => false
  | .ins _ _ => false
  | .dN _ _ => false
  | _ => true
def tyD : D → String
  | .non => "NoneType"
  | .bl _ => "bool"
  | .int _ => "int"
  | .str _ => "str"
  | .lst _ => "list"
  | .tup _ => "tuple"
  | .dK _ => "dict"
  | .dT _ => "dict"
  | _ => ""
theorem isi_ll (K : PySem.W.Frag) : PySem.W.kitOne K (.type "list") (.type "list") = some true := rfl
theorem isi_lt (K : PySem.W.Frag) : PySem.W.kitOne K (.type "list") (.type "tuple") = some false := by rfl
theorem isi_it (K : PySem.W.Frag) : PySem.W.kitOne K (.type "int") (.type "tuple") = some false := by rfl
theorem isi_il (K : PySem.W.Frag) : PySem.W.kitOne K (.type "int") (.type "list") = some false := by rfl
theorem isi_id (K : PySem.W.Frag) : PySem.W.kitOne K (.type "int") (.type "dict") = some false := by rfl
theorem isi_is (K : PySem.W.Frag) : PySem.W.kitOne K (.type "int") (.type "str") = some false := by rfl
theorem isi_ii (K : PySem.W.Frag) : PySem.W.kitOne K (.type "int") (.type "int") = some true := by rfl
theorem isi_ib (K : PySem.W.Frag) : PySem.W.kitOne K (.type "int") (.type "bool") = some false := by rfl
theorem isi_tt (K : PySem.W.Frag) : PySem.W.kitOne K (.type "tuple") (.type "tuple") = some true := by rfl
theorem rc_isi {n : String} {b : Bool} (ht : hasTy d = true) (hk : PySem.W.kitOne K (.type (tyD d)) (.type n) = some b) : RC (rIsi K) [d, .ty n] (.bl b) := fun F H vs e rv Q q => by
  cases rv with
  | cons r rn =>
    cases rn with
    | cons r2 rn =>
      cases rn
      cases r2
      have mk : ∀ v, TyX K H v (.type (tyD d)) → rIsi K [v, .ty n] H Q := fun v hv => ⟨v, .ty n, _, _, b, rfl, .ty n, hv, hk, q _ F H (Gr.refl e) (.bl b)⟩
      cases r with
      | non => exact mk _ (.base .non)
      | bl y => exact mk _ (.base (.bl y))
      | int i => exact mk _ (.base (.int i))
      | str s => exact mk _ (.base (.str s))
      | ty => cases ht
      | lst ea r => exact mk _ (.base (.lst (e _ _ ea)))
      | tup ea r => exact mk _ (.base (.tup (e _ _ ea)))
      | dK ea k r => exact mk _ (.base (.dK (e _ _ ea)))
      | dT ea k r => exact mk _ (.base (.dT (e _ _ ea)))
      | ins => cases ht
      | dN => cases ht
theorem ev_isi {n : String} {b : Bool} (h : Ev te env d) (ht : hasTy d = true := by rfl) (hk : PySem.W.kitOne K (.type (tyD d)) (.type n) = some b) : Ev (tCB (rIsi K) (tCons te (tCons (tC (.ty n)) tNil))) env (.bl b) := ev_cb (ea_cons h (ea_cons ev_ty ea_nil)) (rc_isi ht hk)
/-- an item of a list or of a tuple -/
def rIxS (K : PySem.W.Frag) : R2 := fun x y H Q => rIxL K x y H Q ∨ rIxT K x y H Q
theorem ro_ixSL {i : Int} (h : atI ds i = some d) : RO (rIxS K) (.lst ds) (.int i) d := fun F H v w e rv rw Q q => .inl (ro_ixL h F H v w e rv rw Q q)
theorem ro_ixST {i : Int} (h : atI ds i = some d) : RO (rIxS K) (.tup ds) (.int i) d := fun F H v w e rv rw Q q => .inr (ro_ixT h F H v w e rv rw Q q)
theorem evN_repL {k : Int} (ha : Ev ta env (.lst ds)) (hb : Ev tb env (.int k)) (h1 : 0 ≤ k) (h2 : ds.length * k.toNat ≤ 100000) (h3 : k ≤ 100000) : EvN (tOp rRep ta tb) env (.lst (List.replicate k.toNat ds).flatten) := evN_op ha hb fun F H v w e rv rw Q q => by
  cases rv with
  | @lst a vs _ ea r =>
    cases rw
    exact ⟨a, k, vs, rfl, rfl, e _ _ ea, by omega, by omega, by rw [r.length]; exact Nat.le_trans h2 (by decide), fun p hp => q p F _ (Gr.loose e hp) hp (Evl.fresh_back e hp) ⟨_, upd_same, r.flat _⟩⟩
/-- [z] * n -/
theorem evN_repI {k : Nat} {z : Int} (ha : Ev ta env (.int z)) (hb : Ev tb env (.int (k : Int))) (h : k ≤ 1000) : EvN (tOp rRep (tLst (tCons ta tNil)) tb) env (lI (List.replicate k z)) :=
  evN_is (evN_repL (EvN.ev (evN_lst (ea_cons ha ea_nil) (Nat.le_of_ble_eq_true rfl))) hb (by omega) (by rw [Int.toNat_natCast]; simp; omega) (by omega)) (by
    rw [Int.toNat_natCast, flat_one]
    unfold lI
    rw [List.map_replicate])
end
section
variable {X : Cx} {K : PySem.W.Frag}
theorem k_ixS (hK : X.K = K) : IxR X (rIxS K) := by
  subst hK
  intro value slice pins s σ H x y v u Q I rx ry h hs
  rcases h with h | h
  · exact ix_list value slice pins s σ H x y v u Q I rx ry h hs
  · exact ix_tup value slice pins s σ H x y v u Q I rx ry h hs
end
section
variable {env : Env} {t u : TS} {D1 D2 : DE}
theorem wps_mono (h : wpS t env D1) (n : ∀ e, D1.nx e → D2.nx e) (r : ∀ d e, D1.rt d e → D2.rt d e) (b : ∀ e, D1.bk e → D2.bk e) (c : ∀ e, D1.ct e → D2.ct e) : wpS t env D2 := fun B N F H σ R De l =>
  h B N F H σ R De ⟨fun F' H' σ' e' x y z => l.nx F' H' σ' e' x y (n e' z), fun F' H' σ' e' v d x y w z => l.rt F' H' σ' e' v d x y w (r d e' z), fun F' H' σ' e' x y z => l.bk F' H' σ' e' x y (b e' z), fun F' H' σ' e' x y z => l.ct F' H' σ' e' x y (c e' z)⟩
/-- two statements, with what holds between them -/
theorem wps_mid (M : Env → Prop) (h : wpS t env { D1 with nx := M }) (k : ∀ e, M e → wpS u e D1) : wpS (tSeq t u) env D1 := wps_seq (wps_mono h (fun e z => k e z) (fun _ _ z => z) (fun _ z => z) fun _ z => z)
end
end DL

/-! DL18: the laws' stream of draws: how it is made of the script, how a law begins, tuples of draws. -/
namespace DL
open PySem L2
open Evl (Ex)
section
variable {K : PySem.W.Frag} {env : Env} {te : TE} {d : D} {ds : List D} {D' : DE}
/-- a stream that has just been made -/
def spStream (K : PySem.W.Frag) : Sp := fun vs H Q _ => ∃ (a : Addr) (ns : List Int), vs = [.ref a] ∧ SqL K H a (ns.map V.int) ∧ ns.length ≤ 63 ∧
  ∀ H1 l p m, Ex H H1 → H1 l = none → upd H1 l (.lst (ns.map V.int)) p = none → Q (.ref p) (upd (upd H1 l (.lst (ns.map V.int))) p (.lst [.ref l, .int 0, .int 0, .int m]))
theorem rel_ints {H : Hp} {σ : St} (hl : σ.length = env.length) (h : ∀ (i : Nat) (d : D), env[i]? = some (Sl.fz d) → ∃ v : V, σ[i]? = some (some v) ∧ Rp (fun _ => none) v d) (h2 : ∀ (i : Nat) (s : Sl), env[i]? = some s → s = .no ∨ ∃ d, s = .fz d) : Rel (fun _ => none) (fun _ => True) (fun _ => none) H σ env :=
  ⟨(fun _ _ e => nomatch e), (fun _ _ e => nomatch e), (fun _ _ e => nomatch e), fun _ _ => trivial, hl, fun i s e => by
    rcases h2 i s e with rfl | ⟨d, rfl⟩
    · trivial
    · obtain ⟨v, a, b⟩ := h i d e
      exact ⟨v, by rw [a] <;> rfl, b⟩, fun i j q q' d d' p e _ _ _ => by
    rcases h2 i _ e with z | ⟨d, z⟩ <;> cases z⟩
theorem stream_walk {rl : List V → Hp → VK → Prop} {a : Addr} {ns : List Int} {H : Hp} {De : Ends} (hS : SqL K H a (ns.map V.int)) (hl : ns.length ≤ 63) (hte : ∀ m c : Int, ∃ z : Int, Ev te [.no, .fz (.int m), .fz (.int c)] (.int z))
    (hrl : ∀ (H : Hp) (a : Addr) (ys : List V) (Q : VK), SqL K H a ys → (∀ l, H l = none → Q (.ref l) (upd H l (.lst ys))) → rl [.ref a] H Q)
    (q : ∀ H1 l p m, Ex H H1 → H1 l = none → upd H1 l (.lst (ns.map V.int)) p = none → De.rt (.ref p) (upd (upd H1 l (.lst (ns.map V.int))) p (.lst [.ref l, .int 0, .int 0, .int m]))) :
    (tSeq (tAsg (tC (.int 17)) (gName 1)) (tSeq (tFor (iList K (tVar 0)) (gName 2) (tAsg te (gName 1))) (tRet (tLst (tCons (tCB rl (tCons (tVar 0) tNil)) (tCons (tC (.int 0)) (tCons (tC (.int 0)) (tCons (tVar 1) tNil)))))))) De [some (.ref a), none, none] H := by
  show (tFor (iList K (tVar 0)) (gName 2) (tAsg te (gName 1))) _ [some (.ref a), some (.int 17), none] H
  refine ⟨.ref a, rfl, a, rfl, ⟨_, hS⟩, fun i m σ H3 => ∃ y1 y2, σ = [some (.ref a), some (.int y1), y2] ∧ i + m = ns.length ∧ Ex H H3, ⟨ns.length, 17, none, rfl, by omega, Ex.refl _⟩, fun i m σ H3 hW => ?_⟩
  obtain ⟨y1, y2, rfl, em, ex⟩ := hW
  have hA : SqL K H3 a (ns.map V.int) := Same.seq ex hS
  by_cases hi : i < ns.length
  · have g : (ns.map V.int)[i]? = some (.int ns[i]) := by
      rw [List.getElem?_map, List.getElem?_eq_getElem hi]
      rfl
    refine .inr ⟨⟨_, _, hA, g⟩, fun σ' H' => ∃ y1 y2, σ' = [some (.ref a), some (.int y1), y2] ∧ Ex H H', fun σ' H' hN => ?_, fun v H' hy => ?_⟩
    · obtain ⟨z1, z2, e1, e2⟩ := hN
      exact ⟨m - 1, by omega, z1, z2, e1, by omega, e2⟩
    · obtain ⟨rfl, fv⟩ := hy
      have ev : v = .int ns[i] := Option.some.inj ((fv _ hA).symm.trans g)
      subst ev
      obtain ⟨z, hz⟩ := hte y1 ns[i]
      have R : Rel (fun _ => none) (fun _ => True) (fun _ => none) H' [some (.ref a), some (.int y1), some (.int ns[i])] [.no, .fz (.int y1), .fz (.int ns[i])] := rel_ints rfl (fun j d e => by
        match j, e with
        | 0, e => cases e
        | 1, e => cases e; exact ⟨_, rfl, .int _⟩
        | 2, e => cases e; exact ⟨_, rfl, .int _⟩
        | j + 3, e => cases e) (fun j s e => by
        match j, e with
        | 0, e => cases e; exact .inl rfl
        | 1, e => cases e; exact .inr ⟨_, rfl⟩
        | 2, e => cases e; exact .inr ⟨_, rfl⟩
        | j + 3, e => cases e)
      refine hz _ _ _ H' _ R _ fun v F2 H2 g2 r2 => ?_
      cases r2
      exact ⟨z, some (.int ns[i]), rfl, ex.trans g2.hh⟩
  · refine .inl ⟨⟨_, hA, by rw [List.length_map]; omega⟩, ?_⟩
    refine ⟨.ref a, rfl, ?_⟩
    refine hrl H3 a (ns.map V.int) _ hA fun l hl => ?_
    refine ⟨_, rfl, ?_⟩
    exact ⟨Nat.le_trans (Nat.le_of_ble_eq_true rfl : _ ≤ 4) (by decide), fun p hp => q H3 l p y1 ex hl hp⟩
/-- the law's own beginning -/
theorem law_walk {u : TS} {E : XK} {a : Addr} {ns : List Int} {H : Hp} {De : Ends} {n : Nat} (hS : SqL K H a (ns.map V.int)) (hl : ns.length ≤ 63)
    (hu : ∀ (cells : List Int) (m : Int), wpS u (.no :: .ow none (.lst [lI cells, .int 0, .int 0, .int m]) :: List.replicate n .no) { nx := fun _ => False, rt := fun d _ => d = .bl true }) (q : ∀ H', De.rt (.bl true) H') :
    (tSeq (tAsg (tCall (spStream K) [] E (tCons (tVar 0) tNil)) (gName 1)) u) De (some (.ref a) :: none :: List.replicate n none) H := by
  refine ⟨.ref a, rfl, a, ns, rfl, hS, hl, fun H1 l p m ex hl1 hp => ?_⟩
  show u De (some (.ref a) :: some (.ref p) :: List.replicate n none) _
  have hpl : p ≠ l := fun c => by subst c; rw [upd_same] at hp; cases hp
  have hn : ∀ {α : Type} {i : Nat} {x y : α}, (List.replicate n x)[i]? = some y → y = x := fun h => List.eq_of_mem_replicate (List.mem_of_getElem? h)
  refine hu ns m (fun _ => none) (fun _ => True) (upd (fun _ => none) l (.lst (ns.map V.int))) _ _ ⟨fun b o e => ?_, (fun _ _ e => nomatch e), fun _ _ _ => .inl trivial, fun _ _ => trivial, by simp, fun i s e => ?_, fun i j q1 q2 d1 d2 p' e1 e2 f1 f2 => ?_⟩ De
    ⟨fun _ _ _ _ _ _ z => z.elim, fun F' H' σ' env' v d e R r hd => ?_, fun _ _ _ _ _ _ z => z.elim, fun _ _ _ _ _ _ z => z.elim⟩
  · by_cases c : b = l
    · subst c
      rw [upd_same] at e
      cases e
      rw [upd_ne hpl.symm, upd_same]
    · rw [upd_ne c] at e
      cases e
  · match i, e with
    | 0, e => cases e; trivial
    | 1, e =>
      cases e
      exact ⟨p, rfl, rfl, by rw [upd_ne hpl], ⟨_, upd_same, .cons (.lst upd_same (RpA.ints ns)) (.cons (.int _) (.cons (.int _) (.cons (.int _) .nil)))⟩, trivial⟩
    | i + 2, e =>
      have := hn (show (List.replicate n Sl.no)[i]? = some s from e)
      subst this
      trivial
  · have key : ∀ (i : Nat) (q : Option Addr) (d : D), (Sl.no :: .ow none (.lst [lI ns, .int 0, .int 0, .int m]) :: List.replicate n Sl.no)[i]? = some (.ow q d) → i = 1 := fun i q d e => by
      match i, e with
      | 0, e => cases e
      | 1, _ => rfl
      | i + 2, e =>
        have := hn (show (List.replicate n Sl.no)[i]? = some (Sl.ow q d) from e)
        cases this
    rw [key i _ _ e1, key j _ _ e2]
  · subst hd
    cases r
    exact q H'
/-! ### tuples of draws -/
theorem wps_tupR {vs : List Nat} {i0 i j : Nat} {q : Option Addr} {d0 : D} {ta : TA} (P : D → Prop) (T : D → Prop) (M : Nat → Prop) (hi : env[i0]? = some (.ow q d0)) (h0 : i0 ∉ vs) (hj : j ∈ vs) (hvs : ∀ v ∈ vs, ∀ q d, env[v]? ≠ some (.ow q d))
    (hta : wpA ta env fun ds e => ∃ (n : Nat) (d : D), ds = [.int (n : Int)] ∧ M n ∧ n ≤ 1000 ∧ P d ∧ e = env.set i0 (.ow q d))
    (hte : ∀ (d : D) (a : Int), P d → wpE te ((wipeD (env.set i0 (.ow q d)) vs).set j (.fz (.int a))) fun x e => ∃ d' : D, T x ∧ P d' ∧ e = (wipeD (env.set i0 (.ow q d')) vs).set j (.fz (.int a)))
    (hk : ∀ (n : Nat) (xs : List D) (d : D), M n → xs.length = n → (∀ x ∈ xs, T x) → P d → D'.nx ((env.set i0 (.ow q d)).set i (.fz (.tup xs)))) :
    wpS (tAsg (tCB (fun xs H Q => ∃ p ys, xs = [.ref p] ∧ ((SqL K H p ys ∧ ∀ l, H l = none → Q (.ref l) (upd H l (.tup ys))) ∨ (SqT K H p ys ∧ Q (.ref p) H))) (tCons (tLc (iRng1 ta) (gName j) tYes te vs) tNil)) (gName i)) env D' :=
  wps_asgE (wpe_cb (wpa_cons (wpe_lcR P T M hi h0 hj hvs hta hte fun n xs d h1 h2 h3 h4 => wpa_nil ⟨.tup xs, rc_tupL, hk n xs d h1 h2 h3 h4⟩)))
theorem ints_of {p : Int → Prop} : ∀ xs : List D, (∀ x ∈ xs, ∃ v : Int, x = .int v ∧ p v) → ∃ vs : List Int, xs = vs.map D.int ∧ ∀ v ∈ vs, p v
  | [], _ => ⟨[], rfl, fun v hv => nomatch hv⟩
  | x :: xs, h => by
    obtain ⟨v, rfl, hv⟩ := h x List.mem_cons_self
    obtain ⟨vs, rfl, hvs⟩ := ints_of xs fun y hy => h y (List.mem_cons_of_mem _ hy)
    exact ⟨v :: vs, rfl, fun u hu => by
      rcases List.mem_cons.mp hu with rfl | hu
      · exact hv
      · exact hvs u hu⟩
end
end DL

/-! DL19: what the top has written. -/
namespace DL
open PySem L2
section
variable {K : PySem.W.Frag} {x : Str} {st : Stmt} {h : Heap} {mg : Str → Option Value}
/-- a def as the top has written it -/
inductive DefAt (K : PySem.W.Frag) (x : Str) (st : Stmt) : Prop where
  | mk {f : Addr} {od an : Option Addr} {sl : Array (Option Value)} {oc kV dc pm cd ct : Value}
    (a : PySem.W.nsIn K mainGlobals x = some (some (.ref f))) (l : K.lookup f = some ⟨oc, od, .func (PySem.W.fnOf x x (defArgs st) (defBody st) (defScope st) .none kV dc pm an cd ct), sl⟩)
    (c : PySem.W.codeIn K cd x = true) (k : PySem.W.keepIn K (.ref f) = true) : DefAt K x st
theorem DefAt.get (d : DefAt K x st) (X : K.In h) (G : h.Ns mainGlobals mg) (ps : List Str)
    (hb : ∀ (kV doc pm : Value) (an : Option Addr) (cdv ct : Value) (us : List Value), us.length = ps.length → bindArgs (PySem.W.fnOf x x (defArgs st) (defBody st) (defScope st) .none kV doc pm an cdv ct) ⟨us, []⟩ = pure (ps.zip us)) :
    ∃ f fd, Fun K x x st f fd ∧ mg x = some (.ref f) ∧ PySem.W.keepIn K (.ref f) = true ∧ Binds K fd ps [] := by
  obtain ⟨a, l, c, k⟩ := d
  have F := fun_mk (st := st) l c k
  exact ⟨_, _, F, PySem.W.mg_of X G a, k, F.binds hb⟩
/-- the law's def -/
theorem DefAt.law (d : DefAt K x st) (X : K.In h) (G : h.Ns mainGlobals mg) {fa : Addr} (hfa : mg x = some (.ref fa)) {y : Str}
    (hb : ∀ (s : Shared) (v kV doc pm : Value) (an : Option Addr) (cdv ct : Value), BindsTo s (PySem.W.fnOf x x (defArgs st) (defBody st) (defScope st) .none kV doc pm an cdv ct) ⟨[v], []⟩ [(y, v)]) :
    ∃ fd, Fun K x x st fa fd ∧ ∀ (s : Shared) (v : Value), BindsTo s fd ⟨[v], []⟩ [(y, v)] := by
  obtain ⟨a, l, c, k⟩ := d
  have F := fun_mk (st := st) l c k
  have e := hfa.symm.trans (PySem.W.mg_of X G a)
  cases e
  exact ⟨_, F, fun s v => hb s v _ _ _ _ _ _⟩
/-- the built-in names are not bound -/
def Bare (K : PySem.W.Frag) (ns : List Str) : Prop := ∀ n ∈ ns, PySem.W.nsIn K mainGlobals n = some none
theorem Bare.bl (b : Bare K ["len", "range", "sum", "any", "all", "tuple", "list", "int", "abs", "max", "min", "sorted", "zip", "enumerate", "isinstance", "str", "dict", "bool"]) (X : K.In h) (G : h.Ns mainGlobals mg) : Bl mg := by
  have q : ∀ n ∈ (["len", "range", "sum", "any", "all", "tuple", "list", "int", "abs", "max", "min", "sorted", "zip", "enumerate", "isinstance", "str", "dict", "bool"] : List Str), mg n = none := fun n hn => PySem.W.mg_none_of X G (b n hn)
  exact ⟨q _ (by simp), q _ (by simp), q _ (by simp), q _ (by simp), q _ (by simp), q _ (by simp), q _ (by simp), q _ (by simp), q _ (by simp), q _ (by simp), q _ (by simp), q _ (by simp), q _ (by simp), q _ (by simp), q _ (by simp), q _ (by simp), q _ (by simp), q _ (by simp)⟩
theorem Bare.nil : Bare K [] := fun n hn => nomatch hn
theorem Bare.cons {n : Str} {ns : List Str} (a : PySem.W.nsIn K mainGlobals n = some none) (b : Bare K ns) : Bare K (n :: ns) := fun m hm => by
  rcases List.mem_cons.mp hm with rfl | hm
  · exact a
  · exact b m hm
theorem const_at {n : Int} {t : Tok} (a : PySem.W.nsIn K mainGlobals x = some (some (.int n t))) : ∃ t, PySem.W.nsIn K mainGlobals x = some (some (.int n t)) := ⟨t, a⟩
end
end DL

/-! k65, the mirrors: what each def computes, in plain Lean. -/
namespace K65
open PySem L2 DL
def small (x : Int) : Prop := -(2 ^ 64) < x ∧ x < 2 ^ 64
instance (x : Int) : Decidable (small x) := by unfold small; infer_instance
def totalM (f r : List Int) : Int := ((f.zip r).map fun p => p.1 * p.2).sum
def isUnder (a b : List Int) : Bool := ((a.zip b).map fun p => decide (p.1 ≤ p.2)).all id
def unitRow (wide place : Nat) : List Int := (List.range wide).map fun a => if a = place then 1 else 0
def bumpAt (row : List Int) (p : Nat) : List Int := (row.take p ++ [row.getD p 0 + 1]) ++ row.drop (p + 1)
def gapM (l r : List Int) (known : Int) (row : List Int) : Int := totalM l (row.take l.length) - totalM r (row.drop l.length) - known
def placesM (l r : List Int) (g : Int) : List Nat := if 0 < g then (List.range r.length).map (l.length + ·) else List.range l.length
def insM (ks : List (List Int)) (r : List Int) : List (List Int) := if ks.any (fun k => decide (k = r)) then ks else ks ++ [r]
def fillM (row : List Int) (ps : List Nat) (b : List (List Int)) : List (List Int) := ps.foldl (fun b p => insM b (bumpAt row p)) b
def stepM (l r : List Int) (known : Int) (s : List (List Int) × List (List Int)) (row : List Int) : List (List Int) × List (List Int) :=
  if gapM l r known row = 0 then (s.1 ++ [row], s.2) else (s.1, fillM row (placesM l r (gapM l r known row)) s.2)
def levelM (ext : List (List Int)) (s : List (List Int) × List (List Int)) : List (List Int) := s.2.filter fun row => !((s.1 ++ ext).map fun one => isUnder one row).any id
def loopM (l r : List Int) (known : Int) (ext : List (List Int)) : Nat → List (List Int) → List (List Int) → Option (List (List Int))
  | 0, _, _ => none
  | n + 1, found, level => if level.isEmpty then some found else
    let s := level.foldl (stepM l r known) (found, [])
    if s.1.length ≤ 50000 ∧ s.2.length ≤ 50000 then loopM l r known ext n s.1 (levelM ext s) else none
def leRow (a b : List Int) : Bool := !PySem.W.dataLt (tI b).py (tI a).py
def leastM (l r : List Int) : Option (List (List Int)) := (loopM l r 0 [] 64 [] ((List.range (l.length + r.length)).map (unitRow (l.length + r.length)))).map (isort leRow)

/-! about them -/
theorem insM_len (ks : List (List Int)) (r : List Int) : ks.length ≤ (insM ks r).length := by
  unfold insM
  split
  · exact Nat.le_refl _
  · rw [List.length_append]; exact Nat.le_add_right _ _
theorem fillM_len (row : List Int) : ∀ (ps : List Nat) (b : List (List Int)), b.length ≤ (fillM row ps b).length
  | [], _ => Nat.le_refl _
  | p :: ps, b => Nat.le_trans (insM_len b _) (fillM_len row ps _)
theorem stepM_len (l r : List Int) (known : Int) (s : List (List Int) × List (List Int)) (row : List Int) : s.1.length ≤ (stepM l r known s row).1.length ∧ s.2.length ≤ (stepM l r known s row).2.length := by
  unfold stepM
  split
  · exact ⟨by rw [List.length_append]; exact Nat.le_add_right _ _, Nat.le_refl _⟩
  · exact ⟨Nat.le_refl _, fillM_len _ _ _⟩
theorem foldM_len (l r : List Int) (known : Int) : ∀ (lv : List (List Int)) (s : List (List Int) × List (List Int)), s.1.length ≤ (lv.foldl (stepM l r known) s).1.length ∧ s.2.length ≤ (lv.foldl (stepM l r known) s).2.length
  | [], _ => ⟨Nat.le_refl _, Nat.le_refl _⟩
  | row :: lv, s => by
    have h1 := stepM_len l r known s row
    have h2 := foldM_len l r known lv (stepM l r known s row)
    exact ⟨Nat.le_trans h1.1 h2.1, Nat.le_trans h1.2 h2.2⟩
theorem take_more {α : Type} {l : List α} {i : Nat} {x : α} (h : l[i]? = some x) : l.take (i + 1) = l.take i ++ [x] := by rw [List.take_succ, h] <;> rfl
theorem foldl_take {α β : Type} (f : β → α → β) (b : β) {l : List α} {i : Nat} {x : α} (h : l[i]? = some x) : (l.take (i + 1)).foldl f b = f ((l.take i).foldl f b) x := by
  rw [take_more h, List.foldl_append] <;> rfl
theorem foldl_split {α β : Type} (f : β → α → β) (b : β) (l : List α) (i : Nat) : l.foldl f b = (l.drop i).foldl f ((l.take i).foldl f b) := by
  rw [← List.foldl_append, List.take_append_drop]
theorem bumpAt_len {row : List Int} {p : Nat} (h : p < row.length) : (bumpAt row p).length = row.length := by
  unfold bumpAt
  simp
  omega
theorem insM_mem {ks : List (List Int)} {r x : List Int} (h : x ∈ insM ks r) : x ∈ ks ∨ x = r := by
  unfold insM at h
  split at h
  · exact .inl h
  · rcases List.mem_append.mp h with h | h
    · exact .inl h
    · exact .inr (by simpa using h)
theorem fillM_mem {row : List Int} : ∀ {ps : List Nat} {b : List (List Int)} {x : List Int}, x ∈ fillM row ps b → x ∈ b ∨ ∃ p ∈ ps, x = bumpAt row p
  | [], _, _, h => .inl h
  | p :: ps, b, x, h => by
    rcases fillM_mem (row := row) (ps := ps) h with h | ⟨q, hq, e⟩
    · rcases insM_mem h with h | h
      · exact .inl h
      · exact .inr ⟨p, List.mem_cons_self, h⟩
    · exact .inr ⟨q, List.mem_cons_of_mem _ hq, e⟩
theorem placesM_lt {l r : List Int} {g : Int} {p : Nat} (h : p ∈ placesM l r g) : p < l.length + r.length := by
  unfold placesM at h
  split at h
  · obtain ⟨a, ha, rfl⟩ := List.mem_map.mp h
    rw [List.mem_range] at ha
    omega
  · rw [List.mem_range] at h
    omega
/-- all rows are so wide -/
def Wide (n : Nat) (rs : List (List Int)) : Prop := ∀ r ∈ rs, r.length = n
theorem stepM_wide {l r : List Int} {known : Int} {s : List (List Int) × List (List Int)} {row : List Int} (h1 : Wide (l.length + r.length) s.1) (h2 : Wide (l.length + r.length) s.2) (hr : row.length = l.length + r.length) :
    Wide (l.length + r.length) (stepM l r known s row).1 ∧ Wide (l.length + r.length) (stepM l r known s row).2 := by
  unfold stepM
  split
  · refine ⟨fun x hx => ?_, h2⟩
    rcases List.mem_append.mp hx with hx | hx
    · exact h1 x hx
    · rw [List.mem_singleton] at hx
      rw [hx, hr]
  · refine ⟨h1, fun x hx => ?_⟩
    rcases fillM_mem hx with hx | ⟨p, hp, rfl⟩
    · exact h2 x hx
    · rw [bumpAt_len (by rw [hr]; exact placesM_lt hp), hr]
theorem foldM_wide {l r : List Int} {known : Int} : ∀ {lv : List (List Int)} {s : List (List Int) × List (List Int)}, Wide (l.length + r.length) lv → Wide (l.length + r.length) s.1 → Wide (l.length + r.length) s.2 →
    Wide (l.length + r.length) (lv.foldl (stepM l r known) s).1 ∧ Wide (l.length + r.length) (lv.foldl (stepM l r known) s).2
  | [], _, _, h1, h2 => ⟨h1, h2⟩
  | row :: lv, s, hl, h1, h2 => by
    have := stepM_wide (known := known) h1 h2 (hl row List.mem_cons_self)
    exact foldM_wide (lv := lv) (fun x hx => hl x (List.mem_cons_of_mem _ hx)) this.1 this.2
/-- the dict whose keys are rows -/
def kdOf (ks : List (List Int)) : List (List Key × D) := ks.map fun r => (r.map Sum.inl, D.bl true)
theorem map_inl_inj : ∀ {a b : List Int}, a.map (Sum.inl : Int → Key) = b.map Sum.inl → a = b
  | [], [], _ => rfl
  | [], y :: b, h => by simp at h
  | x :: a, [], h => by simp at h
  | x :: a, y :: b, h => by
    simp only [List.map_cons, List.cons.injEq, Sum.inl.injEq] at h
    rw [h.1, map_inl_inj h.2]
theorem kdOf_put (ks : List (List Int)) (r : List Int) : putD (kdOf ks) (r.map Sum.inl) (.bl true) = kdOf (insM ks r) := by
  have h1 : ((kdOf ks).any fun kv => decide (kv.1 = r.map Sum.inl)) = ks.any fun k => decide (k = r) := by
    unfold kdOf
    rw [List.any_map]
    congr 1
    funext k
    exact decide_eq_decide.mpr ⟨fun e => map_inl_inj e, fun e => by rw [e]⟩
  unfold putD insM
  rw [h1]
  split
  · unfold kdOf
    rw [List.map_map]
    refine List.map_congr_left fun k _ => ?_
    show (if k.map Sum.inl = r.map Sum.inl then (k.map Sum.inl, D.bl true) else (k.map Sum.inl, D.bl true)) = _
    split <;> rfl
  · unfold kdOf
    rw [List.map_append] <;> rfl
theorem kdOf_keys (ks : List (List Int)) : (kdOf ks).map (·.1) = ks.map fun r => r.map Sum.inl := by
  unfold kdOf
  rw [List.map_map] <;> rfl
theorem kD_row (r : List Int) : (r.map (Sum.inl : Int → Key)).map kD = r.map D.int := by
  rw [List.map_map] <;> rfl
/-! the order of rows -/
theorem leRow_total : PySem.W.TotalLe leRow := by
  have h := PySem.W.sortLe_total (PyProof.Rows.listOrd PyProof.Rows.itemOrd) false (fun a : List Int => PySem.W.keyToks (tI a).py)
  exact h
theorem toks_tI (a : List Int) : PySem.W.keyToks (tI a).py = (a.map fun i => [(Sum.inl 1 : Int ⊕ List Nat), Sum.inl i]).flatten ++ [Sum.inl 0] := by
  show PySem.W.keyToks (.tuple (D.pyA (a.map D.int))) = _
  rw [PySem.W.keyToks]
  induction a with
  | nil => rfl
  | cons x a ih =>
    show PySem.W.keyToksAll (.int x :: D.pyA (a.map D.int)) = _
    rw [PySem.W.keyToksAll, ih]
    rfl
theorem toks_inj : ∀ (a b : List Int), (a.map fun i => [(Sum.inl 1 : Int ⊕ List Nat), Sum.inl i]).flatten ++ [Sum.inl 0] = (b.map fun i => [(Sum.inl 1 : Int ⊕ List Nat), Sum.inl i]).flatten ++ [Sum.inl 0] → a = b
  | [], [], _ => rfl
  | [], y :: b, h => by simp at h
  | x :: a, [], h => by simp at h
  | x :: a, y :: b, h => by
    simp only [List.map_cons, List.flatten_cons, List.cons_append, List.nil_append, List.append_assoc, List.cons.injEq, Sum.inl.injEq, true_and] at h
    rw [h.1, toks_inj a b h.2]
theorem leRow_anti (a b : List Int) (h1 : leRow a b = true) (h2 : leRow b a = true) : a = b := by
  unfold leRow PySem.W.dataLt at h1 h2
  rw [Bool.not_eq_true'] at h1 h2
  have e := (PyProof.Rows.listOrd PyProof.Rows.itemOrd).total _ _ h1 h2
  rw [toks_tI, toks_tI] at e
  exact (toks_inj _ _ e).symm
theorem sortD_rows (rs : List (List Int)) : sortD (rs.map tI) = (isort leRow rs).map tI := by
  rw [← isort_eq leRow_total leRow_anti]
  unfold sortD
  exact (List.map_mergeSort (f := tI) (l := rs) (r := leRow) fun _ _ _ _ => rfl).symm
theorem alike_ints : ∀ a b : List Int, PySem.W.alikeAll (D.pyA (a.map D.int)) (D.pyA (b.map D.int)) = true
  | [], _ => by simp [D.pyA, PySem.W.alikeAll]
  | x :: a, [] => by simp [D.pyA, PySem.W.alikeAll]
  | x :: a, y :: b => by
    show PySem.W.alikeAll (.int x :: D.pyA (a.map D.int)) (.int y :: D.pyA (b.map D.int)) = true
    rw [PySem.W.alikeAll, alike_ints a b]
    rfl
theorem alike_tI (a b : List Int) : PySem.W.alike (tI a).py (tI b).py = true := by
  show PySem.W.alike (.tuple (D.pyA (a.map D.int))) (.tuple (D.pyA (b.map D.int))) = true
  rw [PySem.W.alike]
  exact alike_ints a b
theorem rows_alike (rs : List (List Int)) : PySem.W.AllAlike ((rs.map tI).map D.py) := by
  intro d hd d' hd'
  rw [List.map_map] at hd hd'
  obtain ⟨a, _, rfl⟩ := List.mem_map.mp hd
  obtain ⟨b, _, rfl⟩ := List.mem_map.mp hd'
  exact alike_tI a b
theorem rows_sortable {n : Nat} {rs : List (List Int)} (h : Wide (n + 1) rs) : PySem.W.Sortable ((rs.map tI).map D.py) := by
  refine .inl fun d hd => ?_
  rw [List.map_map] at hd
  obtain ⟨a, ha, rfl⟩ := List.mem_map.mp hd
  have hl := h a ha
  cases a with
  | nil => cases hl
  | cons x a => exact ⟨_, _, rfl⟩
end K65

namespace K65
open PySem L2 DL
def top (i : Nat) : Stmt := PySem.Challenge.pw_termtide_k65_whole_sums_of_least_rows.main.body.getD i (.Pass ⟨0, 0, 0, 0⟩)
section
variable {P : Program} {w : World} {K : PySem.W.Frag} {mg : Str → Option Value} {base : Heap}
abbrev s_total : Stmt := top 6
abbrev N_total : List Str := ["factors", "row", "a", "b"]
abbrev P_total : List Str := ["factors", "row"]
theorem sc_total : FnScope N_total P_total (defScope s_total) := ⟨rfl, rfl, rfl, by decide +kernel, rfl, by decide +kernel, by decide +kernel⟩
/- 0:factors 1:row 2:a 3:b -/
def S_total (ds : List D) (k : D → Prop) : Prop := ∃ f r, ds = [tI f, tI r] ∧ (∀ x ∈ f, small x) ∧ f.length ≤ 1000 ∧ k (.int (totalM f r))
theorem ok_total {f : Addr} {fd : FuncData} (F : Fun K "total" "total" s_total f fd) (T : Bl mg) : FnOk P w K mg base CX0 1 f fd P_total (spR S_total) := by
  refine fn_ok F sc_total (fun ds k ⟨_, _, e, _⟩ => by rw [e] <;> rfl) (by decide) (fun cdv A outer s H E hr => ⟨_, (pss_one (ps_ret (pe_callB (id := "sum") (DL.k_sum (K := K) rfl rfl) (by rfl) T.m_sum (by decide +kernel) (pa_cons (pe_lc (own := [("a", 2), ("b", 3)]) (g := (gTup K 2 (gCons (gName 2) (gCons (gName 3) gNil)))) (tt := tYes) rfl sc_total.nd (DL.k_zip (K := K) rfl (by rfl) T.m_zip (pa_cons (pv 0) (pa_cons (pv 1) pa_nil))) (blkOk_by (own := [("a", 2), ("b", 3)]) (N := N_total) (sc := defScope s_total) (by decide +kernel)) (fun _ _ _ _ _ => by exact (pg_tup rfl (pgs_cons (pg_name (i := 2) sc_total.nd rfl (by first | exact Or.inl rfl | exact Or.inr rfl)) (pgs_cons (pg_name (i := 3) sc_total.nd rfl (by first | exact Or.inl rfl | exact Or.inr rfl)) pgs_nil)))) (fun _ _ _ _ _ => by exact pts_nil) (fun _ _ _ _ _ => by exact (pe_op op_mul (pv 2) (pv 3)))) pa_nil)))), fun ds k ⟨f, r, e, hb, hl, hk⟩ => ?_⟩)
  subst e
  refine wps_ret (ev_cb (ea_cons (EvN.ev (evN_lcE (xs := f.zip r) D.int (fun p => p.1 * p.2) (ei_zipE (ea_cons (ev_var rfl) (ea_cons (ev_var rfl) ea_nil))) (by rw [List.length_zip]; omega) fun x hx =>
    ⟨_, wpg_tup (wpgs_name (by decide) (wpgs_name (by decide) wpgs_nil)) rfl, ev_op (ev_var rfl) (ev_var rfl) (ro_intC (.inl (hb _ (List.of_mem_zip hx).1)))⟩)) ea_nil) rc_sum) hk
abbrev s_is_under : Stmt := top 7
abbrev N_is_under : List Str := ["one", "two", "a", "b"]
abbrev P_is_under : List Str := ["one", "two"]
theorem sc_is_under : FnScope N_is_under P_is_under (defScope s_is_under) := ⟨rfl, rfl, rfl, by decide +kernel, rfl, by decide +kernel, by decide +kernel⟩
/- 0:one 1:two 2:a 3:b -/
def S_is_under (ds : List D) (k : D → Prop) : Prop := ∃ f r, ds = [tI f, tI r] ∧ f.length ≤ 1000 ∧ k (.bl (isUnder f r))
theorem ok_is_under {f : Addr} {fd : FuncData} (F : Fun K "is_under" "is_under" s_is_under f fd) (T : Bl mg) : FnOk P w K mg base CX0 1 f fd P_is_under (spR S_is_under) := by
  refine fn_ok F sc_is_under (fun ds k ⟨_, _, e, _⟩ => by rw [e] <;> rfl) (by decide) (fun cdv A outer s H E hr => ⟨_, (pss_one (ps_ret (pe_callB (id := "all") (DL.k_all (K := K) rfl rfl) (by rfl) T.m_all (by decide +kernel) (pa_cons (pe_lc (own := [("a", 2), ("b", 3)]) (g := (gTup K 2 (gCons (gName 2) (gCons (gName 3) gNil)))) (tt := tYes) rfl sc_is_under.nd (DL.k_zip (K := K) rfl (by rfl) T.m_zip (pa_cons (pv 0) (pa_cons (pv 1) pa_nil))) (blkOk_by (own := [("a", 2), ("b", 3)]) (N := N_is_under) (sc := defScope s_is_under) (by decide +kernel)) (fun _ _ _ _ _ => by exact (pg_tup rfl (pgs_cons (pg_name (i := 2) sc_is_under.nd rfl (by first | exact Or.inl rfl | exact Or.inr rfl)) (pgs_cons (pg_name (i := 3) sc_is_under.nd rfl (by first | exact Or.inl rfl | exact Or.inr rfl)) pgs_nil)))) (fun _ _ _ _ _ => by exact pts_nil) (fun _ _ _ _ _ => by exact (pe_cmpR op_le (pv 2) (pv 3) (nomark _)))) pa_nil)))), fun ds k ⟨f, r, e, hl, hk⟩ => ?_⟩)
  subst e
  refine wps_ret (ev_cb (ea_cons (EvN.ev (evN_lcE (xs := f.zip r) D.bl (fun p => decide (p.1 ≤ p.2)) (ei_zipE (ea_cons (ev_var rfl) (ea_cons (ev_var rfl) ea_nil))) (by rw [List.length_zip]; omega) fun x hx =>
    ⟨_, wpg_tup (wpgs_name (by decide) (wpgs_name (by decide) wpgs_nil)) rfl, ev_op (ev_var rfl) (ev_var rfl) ro_cmp⟩)) ea_nil) rc_all) hk
end
end K65

namespace K65
open PySem L2 DL
section
variable {P : Program} {w : World} {K : PySem.W.Frag} {mg : Str → Option Value} {base : Heap}
abbrev s_least_rows : Stmt := top 8
abbrev N_least_rows : List Str := ["left", "right", "wide", "found", "level", "at", "place", "behind", "row", "gap", "places", "one"]
abbrev P_least_rows : List Str := ["left", "right"]
theorem sc_least_rows : FnScope N_least_rows P_least_rows (defScope s_least_rows) := ⟨rfl, rfl, rfl, by decide +kernel, rfl, by decide +kernel, by decide +kernel⟩
/- 0:left 1:right 2:wide 3:found 4:level 5:at 6:place 7:behind 8:row 9:gap 10:places 11:one -/
theorem ei_rows {env : DL.Env} {i : Nat} {p : Addr} {ks : List (List Int)} (hi : env[i]? = some (.lk p (.dT (kdOf ks)))) : EvI (iKeys (tVar i)) env (ks.map tI) := by
  have h := ei_keysT hi
  rw [kdOf_keys, List.map_map] at h
  have e : ((fun k : List Key => D.tup (k.map kD)) ∘ fun r : List Int => r.map Sum.inl) = tI := by
    funext r
    show D.tup ((r.map (Sum.inl : Int → Key)).map kD) = tI r
    rw [kD_row] <;> rfl
  rwa [e] at h
def rowsD (rs : List (List Int)) : D := .lst (rs.map tI)
/-- what is asked of the factors -/
def FacOk (l r : List Int) : Prop := (∀ x ∈ l, small x) ∧ (∀ x ∈ r, small x) ∧ l.length ≤ 100 ∧ r.length ≤ 100 ∧ 0 < l.length
def S_least_rows (ds : List D) (k : D → Prop) : Prop := ∃ l r res, ds = [tI l, tI r] ∧ FacOk l r ∧ leastM l r = some res ∧ k (rowsD res)
theorem ok_least_rows {f : Addr} {fd : FuncData} (F : Fun K "least_rows" "least_rows" s_least_rows f fd) (T : Bl mg) {tR : Tok} (c_MOST_ROWS : mg "MOST_ROWS" = some (.int 100000 tR))
    (C_total : Cal P w K mg base 1 "total" P_total (spR S_total)) (C_is_under : Cal P w K mg base 1 "is_under" P_is_under (spR S_is_under)) : FnOk P w K mg base CX0 2 f fd P_least_rows (spR S_least_rows) := by
  refine fn_ok F sc_least_rows (fun ds k ⟨_, _, _, e, _⟩ => by rw [e] <;> rfl) (by decide) (fun cdv A outer s H E hr => ?_)
  have hu := hu_of hr
  have hu64 := hu64_of hr
  refine ⟨_, (pss_cons (ps_set (i := 2) sc_least_rows.nd rfl (by first | exact Or.inl rfl | exact Or.inr rfl) (pe_op op_add (pe_callB (id := "len") (DL.k_len (K := K) rfl) (by rfl) T.m_len (by decide +kernel) (pa_cons (pv 0) pa_nil)) (pe_callB (id := "len") (DL.k_len (K := K) rfl) (by rfl) T.m_len (by decide +kernel) (pa_cons (pv 1) pa_nil))))
      (pss_cons (ps_set (i := 3) sc_least_rows.nd rfl (by first | exact Or.inl rfl | exact Or.inr rfl) (pe_lst pa_nil))
      (pss_cons (ps_setLc (i := 4) (own := [("place", 6)]) (g := (gName 6)) (tt := tYes) rfl sc_least_rows.nd rfl rfl (sw_true rfl rfl rfl (by decide +kernel)) (pi_range1 (by rfl) T.m_range (pa_cons (pv 2) pa_nil)) (blkOk_by (own := [("place", 6)]) (N := N_least_rows) (sc := defScope s_least_rows) (by decide +kernel)) (fun _ _ _ _ _ => by exact (pg_name (i := 6) sc_least_rows.nd rfl (by first | exact Or.inl rfl | exact Or.inr rfl))) (fun _ _ _ _ _ => by exact pts_nil) (fun _ _ _ _ _ => by exact (pe_callTy (T := "tuple") (DL.k_tupleOf (K := K) rfl) (by rfl) T.m_tuple (by decide +kernel) (pa_cons (pe_lc (own := [("at", 5)]) (g := (gName 5)) (tt := tYes) rfl sc_least_rows.nd (pi_range1 (by rfl) T.m_range (pa_cons (pv 2) pa_nil)) (blkOk_by (own := [("at", 5)]) (N := N_least_rows) (sc := _) (by first | rfl | kernel_rfl)) (fun _ _ _ _ _ => by exact (pg_name (i := 5) sc_least_rows.nd rfl (by first | exact Or.inl rfl | exact Or.inr rfl))) (fun _ _ _ _ _ => by exact pts_nil) (fun _ _ _ _ _ => by exact (pe_callTy (T := "int") call_int1 (by rfl) T.m_int (by decide +kernel) (pa_cons (pe_cmpR (DL.k_eqD (K := K) rfl hu64) (pv 5) (pv 6) (nomark _)) pa_nil)))) pa_nil))))
      (pss_cons (ps_while PassesOwn.never (DL.k_truth (K := K) rfl (pv 4) (by intro _; rfl))
        (pss_cons (ps_set (i := 7) sc_least_rows.nd rfl (by first | exact Or.inl rfl | exact Or.inr rfl) pe_dnewT)
        (pss_cons (ps_for PassesOwn.never rfl (DL.k_list (K := K) rfl (pv 4)) (pg_name (i := 8) sc_least_rows.nd rfl (by first | exact Or.inl rfl | exact Or.inr rfl))
          (pss_cons (ps_set (i := 9) sc_least_rows.nd rfl (by first | exact Or.inl rfl | exact Or.inr rfl) (pe_op op_sub (DL.pe_cal C_total (hr.mono (by decide)) (by rfl) (pa_cons (pv 0) (pa_cons (pe_slice (DL.k_slT (K := K) rfl) (pv 8) po_none (po_some (pe_callB (id := "len") (DL.k_len (K := K) rfl) (by rfl) T.m_len (by decide +kernel) (pa_cons (pv 0) pa_nil)))) pa_nil))) (DL.pe_cal C_total (hr.mono (by decide)) (by rfl) (pa_cons (pv 1) (pa_cons (pe_slice (DL.k_slT (K := K) rfl) (pv 8) (po_some (pe_callB (id := "len") (DL.k_len (K := K) rfl) (by rfl) T.m_len (by decide +kernel) (pa_cons (pv 0) pa_nil))) po_none) pa_nil)))))
          (pss_one (ps_if (pt_cmpR (DL.k_eqD (K := K) rfl hu64) (pv 9) pe_int (nomark _))
            (pss_one (ps_expr (pe_bm PySem.F.plainAttrs_list PySem.F.slot_list_append PySem.F.type_list_append mt_append (pv 3) (pa_cons (pv 8) pa_nil))))
            (pss_cons (ps_set (i := 10) sc_least_rows.nd rfl (by first | exact Or.inl rfl | exact Or.inr rfl) (pe_ifExp (pt_cmpR op_gt (pv 9) pe_int (nomark _)) (pe_listRg rfl (by rfl) T.m_list (prg_2 (by rfl) T.m_range (pe_callB (id := "len") (DL.k_len (K := K) rfl) (by rfl) T.m_len (by decide +kernel) (pa_cons (pv 0) pa_nil)) (pv 2))) (pe_listRg rfl (by rfl) T.m_list (prg_1 (by rfl) T.m_range (pe_callB (id := "len") (DL.k_len (K := K) rfl) (by rfl) T.m_len (by decide +kernel) (pa_cons (pv 0) pa_nil))))))
            (pss_one (ps_for PassesOwn.never rfl (DL.k_list (K := K) rfl (pv 10)) (pg_name (i := 6) sc_least_rows.nd rfl (by first | exact Or.inl rfl | exact Or.inr rfl))
              (pss_one (ps_dput hu (pv 7) (pe_op (DL.k_catT (K := K) rfl) (pe_op (DL.k_catT (K := K) rfl) (pe_slice (DL.k_slT (K := K) rfl) (pv 8) po_none (po_some (pv 6))) (pe_tup (pa_cons (pe_op op_add (pe_ix (DL.k_ixT (K := K) rfl) (pv 8) (pv 6) (fun _ _ => rfl)) pe_int) pa_nil))) (pe_slice (DL.k_slT (K := K) rfl) (pv 8) (po_some (pe_op op_add (pv 6) pe_int)) po_none)) pe_bl rfl)))))))))
        (pss_cons (ps_lock (ps_setLc (i := 4) (own := [("row", 8)]) (g := (gName 8)) (tt := _) rfl sc_least_rows.nd rfl rfl (sw_true rfl rfl rfl (by decide +kernel)) (pi_keys (pv 7)) (blkOk_by (own := [("row", 8)]) (N := N_least_rows) (sc := defScope s_least_rows) (by decide +kernel)) (fun _ _ _ _ _ => by exact (pg_name (i := 8) sc_least_rows.nd rfl (by first | exact Or.inl rfl | exact Or.inr rfl))) (fun _ _ _ _ _ => by exact (pts_one (pt_not (DL.k_truth (K := K) rfl (pe_callB (id := "any") (DL.k_any (K := K) rfl rfl) (by rfl) T.m_any (by decide +kernel) (pa_cons (pe_lc (own := [("one", 11)]) (g := (gName 11)) (tt := tYes) rfl sc_least_rows.nd (DL.k_list (K := K) rfl (pv 3)) (blkOk_by (own := [("one", 11)]) (N := N_least_rows) (sc := _) (by first | rfl | kernel_rfl)) (fun _ _ _ _ _ => by exact (pg_name (i := 11) sc_least_rows.nd rfl (by first | exact Or.inl rfl | exact Or.inr rfl))) (fun _ _ _ _ _ => by exact pts_nil) (fun _ _ _ _ _ => by exact (DL.pe_cal C_is_under (hr.mono (by decide)) (by rfl) (pa_cons (pv 11) (pa_cons (pv 8) pa_nil))))) pa_nil)) (by intro _; rfl))))) (fun _ _ _ _ _ => by exact (pv 8))))
        (pss_one (ps_if (pt_cmpR op_gt (pe_callB (id := "len") (DL.k_len (K := K) rfl) (by rfl) T.m_len (by decide +kernel) (pa_cons (pv 4) pa_nil)) (pe_glob (v := .int 100000) rfl c_MOST_ROWS ⟨_, rfl⟩) (nomark _))
          (pss_one ps_never)
          pss_nil))))))
      (pss_one (ps_ret (pe_callB (id := "sorted") (DL.k_sorted (K := K) rfl hu64) (by rfl) T.m_sorted (by decide +kernel) (pa_cons (pv 3) pa_nil)))))))), fun ds k ⟨l, r, res, e, ok, hm, hk⟩ => ?_⟩
  subst e
  obtain ⟨ol, or, ll, lr, l0⟩ := ok
  obtain ⟨res0, hm0, rfl⟩ := Option.map_eq_some_iff.mp hm
  let wd := l.length + r.length
  have hwd : wd = l.length + r.length := rfl
  -- wide = len(left) + len(right)
  refine wps_seq (wps_asg (ev_addN (ev_len (ev_var rfl) (len_tI l)) (ev_len (ev_var rfl) (len_tI r))) ?_)
  -- found = []
  refine wps_seq (wps_asgN (evN_lst ea_nil (by decide)) ?_)
  -- level
  refine wps_seq (wps_asg (EvN.ev (evN_lcE tI (unitRow wd) (ei_rngN (ea_cons (ev_var rfl) ea_nil) (show wd ≤ 100000 by omega)) (by rw [List.length_range]; omega) fun place _ =>
    ⟨_, wpg_name (by decide), ev_tupL (EvN.ev (evN_lcE D.int (fun a => if a = place then 1 else 0) (ei_rngN (ea_cons (ev_var rfl) ea_nil) (show wd ≤ 100000 by omega)) (by rw [List.length_range]; omega) fun a _ =>
      ⟨_, wpg_name (by decide), ev_is (ev_cb (ea_cons (ev_eqI (a := (a : Int)) (b := (place : Int)) (ev_var rfl) (ev_var rfl)) ea_nil) rc_intB) (by
        by_cases c : a = place
        · rw [if_pos c, decide_eq_true (by rw [c]), if_pos rfl]
        · rw [if_neg c, decide_eq_false (by omega), if_neg (by decide)])⟩))⟩)) ?_)
  let W : Nat → DL.Env → Prop := fun n env => ∃ found level s5 s6 s7 s8 s9 s10 s11, env = [.fz (tI l), .fz (tI r), .fz (.int (wd : Int)), .ow none (.lst (found.map tI)), .fz (rowsD level), s5, s6, s7, s8, s9, s10, s11] ∧
    loopM l r 0 [] n found level = some res0 ∧ Wide wd found ∧ Wide wd level
  refine wps_seq (wps_while W 64 ⟨[], _, _, _, _, _, _, _, _, rfl, hm0, fun x hx => by simp at hx, fun x hx => ?_⟩ ?_)
  · obtain ⟨a, _, rfl⟩ := List.mem_map.mp hx
    unfold unitRow
    simp [wd]
  rintro m env1 ⟨found, level, s5, s6, s7, s8, s9, s10, s11, rfl, hl, wf, wl⟩
  refine ⟨!level.isEmpty, ev_truL (ev_var rfl), fun hb => ?_, fun hb => ?_⟩
  · -- a turn
    cases m with
    | zero => cases hl
    | succ m =>
      have he : level.isEmpty = false := by simpa using hb
      rw [loopM, he] at hl
      dsimp only at hl
      rw [if_neg Bool.false_ne_true] at hl
      split at hl
      case isFalse => cases hl
      case isTrue hsz =>
        let st : Nat → List (List Int) × List (List Int) := fun i => (level.take i).foldl (stepM l r 0) (found, [])
        have stW : ∀ i, Wide wd (st i).1 ∧ Wide wd (st i).2 := fun i => foldM_wide (fun x hx => wl x (List.mem_of_mem_take hx)) wf (fun x hx => by simp at hx)
        have stL : ∀ i, (st i).1.length ≤ 50000 ∧ (st i).2.length ≤ 50000 := fun i => by
          have h1 := foldM_len l r 0 (level.drop i) (st i)
          have h2 := foldl_split (stepM l r 0) (found, []) level i
          rw [← h2] at h1
          exact ⟨Nat.le_trans h1.1 hsz.1, Nat.le_trans h1.2 hsz.2⟩
        -- behind = {}
        refine wps_seq (wps_asgN evN_dT ?_)
        -- for row in level
        refine wps_seq (wps_forL (xs := level) (e := tI) (ev_var rfl) (fun i env => ∃ s5 s6 s8 s9 s10 s11, env = [.fz (tI l), .fz (tI r), .fz (.int (wd : Int)), .ow none (.lst ((st i).1.map tI)), .fz (rowsD level), s5, s6, .ow none (.dT (kdOf (st i).2)), s8, s9, s10, s11])
          ⟨_, _, _, _, _, _, rfl⟩ ?_ ?_)
        · rintro i row env1 hi ⟨s5, s6, s8, s9, s10, s11, rfl⟩
          have hrow : row.length = wd := wl row (List.mem_of_getElem? hi)
          have hnext : st (i + 1) = stepM l r 0 (st i) row := foldl_take _ _ hi
          refine ⟨_, [8], wpg_name (by decide), ?_⟩
          -- gap
          refine wps_seq (wps_asg (ev_sub (ev_call (ea_cons (ev_var rfl) (ea_cons (ev_toI (ev_var rfl) (ev_len (ev_var rfl) (len_tI l))) ea_nil)) fun k hk => ⟨l, row.take l.length, rfl, ol, by omega, hk⟩)
            (ev_call (ea_cons (ev_var rfl) (ea_cons (ev_fromI (ev_var rfl) (ev_len (ev_var rfl) (len_tI l))) ea_nil)) fun k hk => ⟨r, row.drop l.length, rfl, or, by omega, hk⟩)) ?_)
          have hg : totalM l (row.take l.length) - totalM r (row.drop l.length) = gapM l r 0 row := by unfold gapM; omega
          rw [hg]
          refine wps_if (et_test (ev_eqI (ev_var rfl) ev_int)) (fun c => ?_) (fun c => ?_)
          · have c' : gapM l r 0 row = 0 := of_decide_eq_true c
            have e1 : st (i + 1) = ((st i).1 ++ [row], (st i).2) := by rw [hnext, stepM, if_pos c']
            refine wps_app (i := 3) rfl (ev_var rfl) (by rw [List.length_map]; have := (stL i).1; omega) ⟨s5, s6, .fz (tI row), .fz (.int (gapM l r 0 row)), s10, s11, ?_⟩
            rw [e1, List.map_append]
            rfl
          · have c' : ¬ gapM l r 0 row = 0 := of_decide_eq_false c
            have e1 : st (i + 1) = ((st i).1, fillM row (placesM l r (gapM l r 0 row)) (st i).2) := by rw [hnext, stepM, if_neg c']
            -- places
            refine wps_seq (wps_asg (d := .lst ((placesM l r (gapM l r 0 row)).map fun (p : Nat) => D.int (p : Int))) (ev_if (et_test (ev_op (ev_var rfl) ev_int ro_cmp)) (fun h => EvN.ev ?_) (fun h => EvN.ev ?_)) ?_)
            · have h' : 0 < gapM l r 0 row := of_decide_eq_true h
              refine evN_is (evN_lrg2 (ev_len (ev_var rfl) (len_tI l)) (ev_var rfl) (RgOk.of_le (by omega) (by omega) (by omega) (by omega))) ?_
              rw [placesM, if_pos h', rgD, List.map_map]
              rw [show ((wd : Int) - (l.length : Int)).toNat = r.length by omega]
              exact congrArg D.lst (List.map_congr_left fun a _ => congrArg D.int (by show (l.length : Int) + (a : Int) = ((l.length + a : Nat) : Int); omega))
            · have h' : ¬ 0 < gapM l r 0 row := of_decide_eq_false h
              refine evN_is (evN_lrg1 (ev_len (ev_var rfl) (len_tI l)) (RgOk.of_le (by omega) (by omega) (by omega) (by omega))) ?_
              rw [placesM, if_neg h', rgD]
              rw [show ((l.length : Int) - 0).toNat = l.length by omega]
              exact congrArg D.lst (List.map_congr_left fun a _ => congrArg D.int (Int.zero_add _))
            -- for place in places
            let ps := placesM l r (gapM l r 0 row)
            refine wps_forL (xs := ps) (e := fun (p : Nat) => D.int (p : Int)) (ev_var rfl) (fun j env => ∃ s6, env = [.fz (tI l), .fz (tI r), .fz (.int (wd : Int)), .ow none (.lst ((st i).1.map tI)), .fz (rowsD level), s5, s6, .ow none (.dT (kdOf (fillM row (ps.take j) (st i).2))), .fz (tI row), .fz (.int (gapM l r 0 row)), .fz (.lst (ps.map fun (p : Nat) => D.int (p : Int))), s11])
              ⟨_, rfl⟩ ?_ ?_
            · rintro j p env1 hj ⟨s6, rfl⟩
              have hp : p < wd := placesM_lt (List.mem_of_getElem? hj)
              refine ⟨_, [6], wpg_name (by decide), ?_⟩
              have hb : fillM row (ps.take (j + 1)) (st i).2 = insM (fillM row (ps.take j) (st i).2) (bumpAt row p) := foldl_take _ _ hj
              have hsz2 : (fillM row (ps.take j) (st i).2).length ≤ 50000 := by
                have h1 : (fillM row (ps.take j) (st i).2).length ≤ (fillM row ps (st i).2).length := by
                  have := fillM_len row (ps.drop j) (fillM row (ps.take j) (st i).2)
                  rwa [show fillM row (ps.drop j) (fillM row (ps.take j) (st i).2) = fillM row ps (st i).2 from (foldl_split _ _ ps j).symm] at this
                have h2 := (stL (i + 1)).2
                rw [e1] at h2
                exact Nat.le_trans h1 h2
              refine wps_dputT (i := 7) (ks := (bumpAt row p).map Sum.inl) rfl ev_bl (ev_is (ev_catI (ev_catI (ev_toI (ev_var rfl) (ev_var rfl)) (ev_tup1I (ev_add (ev_ixI (ev_var rfl) (ev_var rfl) (by omega)) ev_int)) (by simp; omega))
                (ev_fromI (ev_var rfl) (ev_addN (b := 1) (ev_var rfl) ev_int)) (by simp; omega)) (by rw [kD_row]; rfl)) (by unfold kdOf; rw [List.length_map]; omega) ⟨.fz (.int (p : Int)), ?_⟩
              rw [kdOf_put, hb]
              rfl
            · rintro env1 ⟨s6, rfl⟩
              refine ⟨s5, s6, .fz (tI row), .fz (.int (gapM l r 0 row)), .fz (.lst (ps.map fun (p : Nat) => D.int (p : Int))), s11, ?_⟩
              rw [e1, List.take_length]
        · rintro env1 ⟨s5, s6, s8, s9, s10, s11, rfl⟩
          have hst : st level.length = level.foldl (stepM l r 0) (found, []) := by show (level.take level.length).foldl _ _ = _; rw [List.take_length]
          have hs := stL level.length
          refine wps_seq (wps_drop 5 (wps_drop 6 (wps_drop 8 (wps_drop 9 (wps_drop 10 (wps_drop 11 (wps_lock 7 rfl trivial fun p => ?_)))))))
          refine wps_asg (d := rowsD (levelM [] (st level.length))) (EvN.ev (evN_is (evN_lcf (xs := (st level.length).2) (e := tI) (fun row => !((st level.length).1.map fun one => isUnder one row).any id) tI (ei_rows rfl) (by omega) fun row hrow => ⟨_, wpg_name (by decide), ?_, fun _ => ev_var rfl⟩) ?_)) ⟨rfl, rfl, ?_⟩
          · exact et_not (ev_truB (ev_bor (ev_any (EvN.ev (evN_lcE (xs := (st level.length).1) (e := tI) D.bl (fun one => isUnder one row) (ei_list (ev_var rfl)) (by omega) fun one hone =>
              ⟨_, wpg_name (by decide), ev_call (ea_cons (ev_var rfl) (ea_cons (ev_var rfl) ea_nil)) fun k hk => ⟨one, row, rfl, by rw [(stW level.length).1 one hone]; omega, hk⟩⟩))) rfl))
          · unfold levelM
            rw [List.append_nil] <;> rfl
          · -- if len(level) > MOST_ROWS
            have hll : (levelM [] (st level.length)).length ≤ 50000 := Nat.le_trans (List.length_filter_le _ _) hs.2
            refine wps_if (et_test (ev_op (ev_len (ev_var rfl) (len_map tI _)) ev_int ro_cmp)) (fun c => ?_) (fun c => ?_)
            · exfalso
              have := of_decide_eq_true c
              omega
            · refine wps_next ⟨m, Nat.lt_succ_self m, (st level.length).1, levelM [] (st level.length), _, _, _, _, _, _, _, rfl, by rw [hst]; exact hl, (stW level.length).1, fun x hx => (stW level.length).2 x (List.mem_filter.mp hx).1⟩
  · have he : level.isEmpty = true := by simpa using hb
    have hres : found = res0 := by
      cases m with
      | zero => cases hl
      | succ m =>
        rw [loopM, if_pos he] at hl
        exact Option.some.inj hl
    subst hres
    refine wps_freeze 3 rfl (wps_ret (EvN.ev (evN_is (evN_cb (ea_cons (ev_var rfl) ea_nil) (rcn_sorted (n := 1) (pl_map pl_tI _) (by decide) (rows_alike _) (rows_sortable (n := wd - 1) (by rw [show wd - 1 + 1 = wd by omega]; exact wf)))) (by rw [sortD_rows] <;> rfl))) hk)
end
end K65

namespace K65
open PySem L2 DL
section
variable {P : Program} {w : World} {K : PySem.W.Frag} {mg : Str → Option Value} {base : Heap}
abbrev s_rows_for : Stmt := top 9
abbrev N_rows_for : List Str := ["left", "right", "known", "wide", "basis", "found", "level", "behind", "row", "gap", "places", "place", "one"]
abbrev P_rows_for : List Str := ["left", "right", "known"]
theorem sc_rows_for : FnScope N_rows_for P_rows_for (defScope s_rows_for) := ⟨rfl, rfl, rfl, by decide +kernel, rfl, by decide +kernel, by decide +kernel⟩
/- 0:left 1:right 2:known 3:wide 4:basis 5:found 6:level 7:behind 8:row 9:gap 10:places 11:place 12:one -/
def rowsForM (l r : List Int) (known : Int) : Option (List (List Int)) := (leastM l r).bind fun basis => if basis.length ≤ 1000 then (loopM l r known basis 64 [] [List.replicate (l.length + r.length) 0]).map (isort leRow) else none
/-- what is asked of the factors of a row that ends on a known sum -/
def S_rows_for (ds : List D) (k : D → Prop) : Prop := ∃ l r known res, ds = [tI l, tI r, .int known] ∧ FacOk l r ∧ 0 < r.length ∧ rowsForM l r known = some res ∧ k (rowsD res)
theorem levelM_wide {wd : Nat} {ext : List (List Int)} {s : List (List Int) × List (List Int)} (h : Wide wd s.2) : Wide wd (levelM ext s) := fun x hx => h x (List.mem_filter.mp hx).1
theorem loopM_wide {l r : List Int} {known : Int} {ext : List (List Int)} : ∀ {n : Nat} {found level res : List (List Int)}, Wide (l.length + r.length) found → Wide (l.length + r.length) level → loopM l r known ext n found level = some res → Wide (l.length + r.length) res
  | 0, _, _, _, _, _, h => by cases h
  | n + 1, found, level, res, wf, wl, h => by
    rw [loopM] at h
    split at h
    · cases h; exact wf
    · dsimp only at h
      split at h
      · have := foldM_wide (s := (found, [])) (known := known) wl wf (fun x hx => absurd hx (by simp))
        exact loopM_wide this.1 (levelM_wide this.2) h
      · cases h
theorem leastM_wide {l r : List Int} {res : List (List Int)} (h : leastM l r = some res) : Wide (l.length + r.length) res := by
  obtain ⟨res0, hm0, rfl⟩ := Option.map_eq_some_iff.mp h
  have hw := loopM_wide (fun x hx => by simp at hx) (fun x hx => by
    obtain ⟨a, _, rfl⟩ := List.mem_map.mp hx
    unfold unitRow
    simp) hm0
  exact fun x hx => hw x ((isort_perm leRow res0).mem_iff.mp hx)
theorem ok_rows_for {f : Addr} {fd : FuncData} (F : Fun K "rows_for" "rows_for" s_rows_for f fd) (T : Bl mg) {tR : Tok} (c_MOST_ROWS : mg "MOST_ROWS" = some (.int 100000 tR))
    (C_total : Cal P w K mg base 1 "total" P_total (spR S_total)) (C_is_under : Cal P w K mg base 1 "is_under" P_is_under (spR S_is_under)) (C_least_rows : Cal P w K mg base 2 "least_rows" P_least_rows (spR S_least_rows)) : FnOk P w K mg base CX0 3 f fd P_rows_for (spR S_rows_for) := by
  refine fn_ok F sc_rows_for (fun ds k ⟨_, _, _, _, e, _⟩ => by rw [e] <;> rfl) (by decide) (fun cdv A outer s H E hr => ?_)
  have hu := hu_of hr
  have hu64 := hu64_of hr
  refine ⟨_, (pss_cons (ps_set (i := 3) sc_rows_for.nd rfl (by first | exact Or.inl rfl | exact Or.inr rfl) (pe_op op_add (pe_callB (id := "len") (DL.k_len (K := K) rfl) (by rfl) T.m_len (by decide +kernel) (pa_cons (pv 0) pa_nil)) (pe_callB (id := "len") (DL.k_len (K := K) rfl) (by rfl) T.m_len (by decide +kernel) (pa_cons (pv 1) pa_nil))))
      (pss_cons (ps_set (i := 4) sc_rows_for.nd rfl (by first | exact Or.inl rfl | exact Or.inr rfl) (DL.pe_cal C_least_rows (hr.mono (by decide)) (by rfl) (pa_cons (pv 0) (pa_cons (pv 1) pa_nil))))
      (pss_cons (ps_set (i := 5) sc_rows_for.nd rfl (by first | exact Or.inl rfl | exact Or.inr rfl) (pe_lst pa_nil))
      (pss_cons (ps_set (i := 6) sc_rows_for.nd rfl (by first | exact Or.inl rfl | exact Or.inr rfl) (pe_lst (pa_cons (pe_op (DL.k_repA (K := K) rfl) (pe_tup (pa_cons pe_int pa_nil)) (pv 3)) pa_nil)))
      (pss_cons (ps_while PassesOwn.never (DL.k_truth (K := K) rfl (pv 6) (by intro _; rfl))
        (pss_cons (ps_set (i := 7) sc_rows_for.nd rfl (by first | exact Or.inl rfl | exact Or.inr rfl) pe_dnewT)
        (pss_cons (ps_for PassesOwn.never rfl (DL.k_list (K := K) rfl (pv 6)) (pg_name (i := 8) sc_rows_for.nd rfl (by first | exact Or.inl rfl | exact Or.inr rfl))
          (pss_cons (ps_set (i := 9) sc_rows_for.nd rfl (by first | exact Or.inl rfl | exact Or.inr rfl) (pe_op op_sub (pe_op op_sub (DL.pe_cal C_total (hr.mono (by decide)) (by rfl) (pa_cons (pv 0) (pa_cons (pe_slice (DL.k_slT (K := K) rfl) (pv 8) po_none (po_some (pe_callB (id := "len") (DL.k_len (K := K) rfl) (by rfl) T.m_len (by decide +kernel) (pa_cons (pv 0) pa_nil)))) pa_nil))) (DL.pe_cal C_total (hr.mono (by decide)) (by rfl) (pa_cons (pv 1) (pa_cons (pe_slice (DL.k_slT (K := K) rfl) (pv 8) (po_some (pe_callB (id := "len") (DL.k_len (K := K) rfl) (by rfl) T.m_len (by decide +kernel) (pa_cons (pv 0) pa_nil))) po_none) pa_nil)))) (pv 2)))
          (pss_one (ps_if (pt_cmpR (DL.k_eqD (K := K) rfl hu64) (pv 9) pe_int (nomark _))
            (pss_one (ps_expr (pe_bm PySem.F.plainAttrs_list PySem.F.slot_list_append PySem.F.type_list_append mt_append (pv 5) (pa_cons (pv 8) pa_nil))))
            (pss_cons (ps_set (i := 10) sc_rows_for.nd rfl (by first | exact Or.inl rfl | exact Or.inr rfl) (pe_ifExp (pt_cmpR op_gt (pv 9) pe_int (nomark _)) (pe_listRg rfl (by rfl) T.m_list (prg_2 (by rfl) T.m_range (pe_callB (id := "len") (DL.k_len (K := K) rfl) (by rfl) T.m_len (by decide +kernel) (pa_cons (pv 0) pa_nil)) (pv 3))) (pe_listRg rfl (by rfl) T.m_list (prg_1 (by rfl) T.m_range (pe_callB (id := "len") (DL.k_len (K := K) rfl) (by rfl) T.m_len (by decide +kernel) (pa_cons (pv 0) pa_nil))))))
            (pss_one (ps_for PassesOwn.never rfl (DL.k_list (K := K) rfl (pv 10)) (pg_name (i := 11) sc_rows_for.nd rfl (by first | exact Or.inl rfl | exact Or.inr rfl))
              (pss_one (ps_dput hu (pv 7) (pe_op (DL.k_catT (K := K) rfl) (pe_op (DL.k_catT (K := K) rfl) (pe_slice (DL.k_slT (K := K) rfl) (pv 8) po_none (po_some (pv 11))) (pe_tup (pa_cons (pe_op op_add (pe_ix (DL.k_ixT (K := K) rfl) (pv 8) (pv 11) (fun _ _ => rfl)) pe_int) pa_nil))) (pe_slice (DL.k_slT (K := K) rfl) (pv 8) (po_some (pe_op op_add (pv 11) pe_int)) po_none)) pe_bl rfl)))))))))
        (pss_cons (ps_lock (ps_setLc (i := 6) (own := [("row", 8)]) (g := (gName 8)) (tt := _) rfl sc_rows_for.nd rfl rfl (sw_true rfl rfl rfl (by decide +kernel)) (pi_keys (pv 7)) (blkOk_by (own := [("row", 8)]) (N := N_rows_for) (sc := defScope s_rows_for) (by decide +kernel)) (fun _ _ _ _ _ => by exact (pg_name (i := 8) sc_rows_for.nd rfl (by first | exact Or.inl rfl | exact Or.inr rfl))) (fun _ _ _ _ _ => by exact (pts_one (pt_not (DL.k_truth (K := K) rfl (pe_callB (id := "any") (DL.k_any (K := K) rfl rfl) (by rfl) T.m_any (by decide +kernel) (pa_cons (pe_lc (own := [("one", 12)]) (g := (gName 12)) (tt := tYes) rfl sc_rows_for.nd (DL.k_list (K := K) rfl (pe_op op_cat (pv 5) (pv 4))) (blkOk_by (own := [("one", 12)]) (N := N_rows_for) (sc := _) (by first | rfl | kernel_rfl)) (fun _ _ _ _ _ => by exact (pg_name (i := 12) sc_rows_for.nd rfl (by first | exact Or.inl rfl | exact Or.inr rfl))) (fun _ _ _ _ _ => by exact pts_nil) (fun _ _ _ _ _ => by exact (DL.pe_cal C_is_under (hr.mono (by decide)) (by rfl) (pa_cons (pv 12) (pa_cons (pv 8) pa_nil))))) pa_nil)) (by intro _; rfl))))) (fun _ _ _ _ _ => by exact (pv 8))))
        (pss_one (ps_if (pt_cmpR op_gt (pe_callB (id := "len") (DL.k_len (K := K) rfl) (by rfl) T.m_len (by decide +kernel) (pa_cons (pv 6) pa_nil)) (pe_glob (v := .int 100000) rfl c_MOST_ROWS ⟨_, rfl⟩) (nomark _))
          (pss_one ps_never)
          pss_nil))))))
      (pss_one (ps_ret (pe_callB (id := "sorted") (DL.k_sorted (K := K) rfl hu64) (by rfl) T.m_sorted (by decide +kernel) (pa_cons (pv 5) pa_nil))))))))), fun ds k ⟨l, r, known, res, e, ok, r0, hm, hk⟩ => ?_⟩
  subst e
  have ok' := ok
  obtain ⟨ol, or, ll, lr, l0⟩ := ok
  obtain ⟨basis, hb0, hm⟩ := Option.bind_eq_some_iff.mp hm
  split at hm
  case isFalse => cases hm
  case isTrue hbl =>
  obtain ⟨res0, hm0, rfl⟩ := Option.map_eq_some_iff.mp hm
  let wd := l.length + r.length
  have hwd : wd = l.length + r.length := rfl
  have hbw : Wide wd basis := leastM_wide hb0
  -- wide = len(left) + len(right)
  refine wps_seq (wps_asg (ev_addN (ev_len (ev_var rfl) (len_tI l)) (ev_len (ev_var rfl) (len_tI r))) ?_)
  refine wps_seq (wps_asg (ev_call (ea_cons (ev_var rfl) (ea_cons (ev_var rfl) ea_nil)) fun k hk => ⟨l, r, basis, rfl, ok', hb0, hk⟩) ?_)
  -- found = []
  refine wps_seq (wps_asgN (evN_lst ea_nil (by decide)) ?_)
  -- level
  refine wps_seq (wps_asg (d := rowsD [List.replicate wd 0]) (EvN.ev (evN_lst (ea_cons (ev_zeros (z := 0) ev_int (ev_var rfl) (.inr (by omega)) (by omega)) ea_nil) (Nat.le_of_ble_eq_true rfl))) ?_)
  let W : Nat → DL.Env → Prop := fun n env => ∃ found level s7 s8 s9 s10 s11 s12, env = [.fz (tI l), .fz (tI r), .fz (.int known), .fz (.int (wd : Int)), .fz (rowsD basis), .ow none (.lst (found.map tI)), .fz (rowsD level), s7, s8, s9, s10, s11, s12] ∧
    loopM l r known basis n found level = some res0 ∧ Wide wd found ∧ Wide wd level
  refine wps_seq (wps_while W 64 ⟨[], _, _, _, _, _, _, _, rfl, hm0, fun x hx => by simp at hx, fun x hx => ?_⟩ ?_)
  · rw [List.mem_singleton.mp hx, List.length_replicate]
  rintro m env1 ⟨found, level, s7, s8, s9, s10, s11, s12, rfl, hl, wf, wl⟩
  refine ⟨!level.isEmpty, ev_truL (ev_var rfl), fun hb => ?_, fun hb => ?_⟩
  · -- a turn
    cases m with
    | zero => cases hl
    | succ m =>
      have he : level.isEmpty = false := by simpa using hb
      rw [loopM, he] at hl
      dsimp only at hl
      rw [if_neg Bool.false_ne_true] at hl
      split at hl
      case isFalse => cases hl
      case isTrue hsz =>
        let st : Nat → List (List Int) × List (List Int) := fun i => (level.take i).foldl (stepM l r known) (found, [])
        have stW : ∀ i, Wide wd (st i).1 ∧ Wide wd (st i).2 := fun i => foldM_wide (fun x hx => wl x (List.mem_of_mem_take hx)) wf (fun x hx => by simp at hx)
        have stL : ∀ i, (st i).1.length ≤ 50000 ∧ (st i).2.length ≤ 50000 := fun i => by
          have h1 := foldM_len l r known (level.drop i) (st i)
          have h2 := foldl_split (stepM l r known) (found, []) level i
          rw [← h2] at h1
          exact ⟨Nat.le_trans h1.1 hsz.1, Nat.le_trans h1.2 hsz.2⟩
        -- behind = {}
        refine wps_seq (wps_asgN evN_dT ?_)
        -- for row in level
        refine wps_seq (wps_forL (xs := level) (e := tI) (ev_var rfl) (fun i env => ∃ s8 s9 s10 s11 s12, env = [.fz (tI l), .fz (tI r), .fz (.int known), .fz (.int (wd : Int)), .fz (rowsD basis), .ow none (.lst ((st i).1.map tI)), .fz (rowsD level), .ow none (.dT (kdOf (st i).2)), s8, s9, s10, s11, s12])
          ⟨_, _, _, _, _, rfl⟩ ?_ ?_)
        · rintro i row env1 hi ⟨s8, s9, s10, s11, s12, rfl⟩
          have hrow : row.length = wd := wl row (List.mem_of_getElem? hi)
          have hnext : st (i + 1) = stepM l r known (st i) row := foldl_take _ _ hi
          refine ⟨_, [8], wpg_name (by decide), ?_⟩
          -- gap
          refine wps_seq (wps_asg (ev_sub (ev_sub (ev_call (ea_cons (ev_var rfl) (ea_cons (ev_toI (ev_var rfl) (ev_len (ev_var rfl) (len_tI l))) ea_nil)) fun k hk => ⟨l, row.take l.length, rfl, ol, by omega, hk⟩)
            (ev_call (ea_cons (ev_var rfl) (ea_cons (ev_fromI (ev_var rfl) (ev_len (ev_var rfl) (len_tI l))) ea_nil)) fun k hk => ⟨r, row.drop l.length, rfl, or, by omega, hk⟩)) (ev_var rfl)) ?_)
          have hg : totalM l (row.take l.length) - totalM r (row.drop l.length) - known = gapM l r known row := rfl
          rw [hg]
          refine wps_if (et_test (ev_eqI (ev_var rfl) ev_int)) (fun c => ?_) (fun c => ?_)
          · have c' : gapM l r known row = 0 := of_decide_eq_true c
            have e1 : st (i + 1) = ((st i).1 ++ [row], (st i).2) := by rw [hnext, stepM, if_pos c']
            refine wps_app (i := 5) rfl (ev_var rfl) (by rw [List.length_map]; have := (stL i).1; omega) ⟨.fz (tI row), .fz (.int (gapM l r known row)), s10, s11, s12, ?_⟩
            rw [e1, List.map_append]
            rfl
          · have c' : ¬ gapM l r known row = 0 := of_decide_eq_false c
            have e1 : st (i + 1) = ((st i).1, fillM row (placesM l r (gapM l r known row)) (st i).2) := by rw [hnext, stepM, if_neg c']
            -- places
            refine wps_seq (wps_asg (d := .lst ((placesM l r (gapM l r known row)).map fun (p : Nat) => D.int (p : Int))) (ev_if (et_test (ev_op (ev_var rfl) ev_int ro_cmp)) (fun h => EvN.ev ?_) (fun h => EvN.ev ?_)) ?_)
            · have h' : 0 < gapM l r known row := of_decide_eq_true h
              refine evN_is (evN_lrg2 (ev_len (ev_var rfl) (len_tI l)) (ev_var rfl) (RgOk.of_le (by omega) (by omega) (by omega) (by omega))) ?_
              rw [placesM, if_pos h', rgD, List.map_map]
              rw [show ((wd : Int) - (l.length : Int)).toNat = r.length by omega]
              exact congrArg D.lst (List.map_congr_left fun a _ => congrArg D.int (by show (l.length : Int) + (a : Int) = ((l.length + a : Nat) : Int); omega))
            · have h' : ¬ 0 < gapM l r known row := of_decide_eq_false h
              refine evN_is (evN_lrg1 (ev_len (ev_var rfl) (len_tI l)) (RgOk.of_le (by omega) (by omega) (by omega) (by omega))) ?_
              rw [placesM, if_neg h', rgD]
              rw [show ((l.length : Int) - 0).toNat = l.length by omega]
              exact congrArg D.lst (List.map_congr_left fun a _ => congrArg D.int (Int.zero_add _))
            -- for place in places
            let ps := placesM l r (gapM l r known row)
            refine wps_forL (xs := ps) (e := fun (p : Nat) => D.int (p : Int)) (ev_var rfl) (fun j env => ∃ s11, env = [.fz (tI l), .fz (tI r), .fz (.int known), .fz (.int (wd : Int)), .fz (rowsD basis), .ow none (.lst ((st i).1.map tI)), .fz (rowsD level), .ow none (.dT (kdOf (fillM row (ps.take j) (st i).2))), .fz (tI row), .fz (.int (gapM l r known row)), .fz (.lst (ps.map fun (p : Nat) => D.int (p : Int))), s11, s12])
              ⟨_, rfl⟩ ?_ ?_
            · rintro j p env1 hj ⟨s11, rfl⟩
              have hp : p < wd := placesM_lt (List.mem_of_getElem? hj)
              refine ⟨_, [11], wpg_name (by decide), ?_⟩
              have hb : fillM row (ps.take (j + 1)) (st i).2 = insM (fillM row (ps.take j) (st i).2) (bumpAt row p) := foldl_take _ _ hj
              have hsz2 : (fillM row (ps.take j) (st i).2).length ≤ 50000 := by
                have h1 : (fillM row (ps.take j) (st i).2).length ≤ (fillM row ps (st i).2).length := by
                  have := fillM_len row (ps.drop j) (fillM row (ps.take j) (st i).2)
                  rwa [show fillM row (ps.drop j) (fillM row (ps.take j) (st i).2) = fillM row ps (st i).2 from (foldl_split _ _ ps j).symm] at this
                have h2 := (stL (i + 1)).2
                rw [e1] at h2
                exact Nat.le_trans h1 h2
              refine wps_dputT (i := 7) (ks := (bumpAt row p).map Sum.inl) rfl ev_bl (ev_is (ev_catI (ev_catI (ev_toI (ev_var rfl) (ev_var rfl)) (ev_tup1I (ev_add (ev_ixI (ev_var rfl) (ev_var rfl) (by omega)) ev_int)) (by simp; omega))
                (ev_fromI (ev_var rfl) (ev_addN (b := 1) (ev_var rfl) ev_int)) (by simp; omega)) (by rw [kD_row]; rfl)) (by unfold kdOf; rw [List.length_map]; omega) ⟨.fz (.int (p : Int)), ?_⟩
              rw [kdOf_put, hb]
              rfl
            · rintro env1 ⟨s11, rfl⟩
              refine ⟨.fz (tI row), .fz (.int (gapM l r known row)), .fz (.lst (ps.map fun (p : Nat) => D.int (p : Int))), s11, s12, ?_⟩
              rw [e1, List.take_length]
        · rintro env1 ⟨s8, s9, s10, s11, s12, rfl⟩
          have hst : st level.length = level.foldl (stepM l r known) (found, []) := by show (level.take level.length).foldl _ _ = _; rw [List.take_length]
          have hs := stL level.length
          refine wps_seq (wps_drop 8 (wps_drop 9 (wps_drop 10 (wps_drop 11 (wps_drop 12 (wps_lock 7 rfl trivial fun p => ?_))))))
          refine wps_asg (d := rowsD (levelM basis (st level.length))) (EvN.ev (evN_is (evN_lcf (xs := (st level.length).2) (e := tI) (fun row => !(((st level.length).1 ++ basis).map fun one => isUnder one row).any id) tI (ei_rows rfl) (by omega) fun row hrow => ⟨_, wpg_name (by decide), ?_, fun _ => ev_var rfl⟩) ?_)) ⟨rfl, rfl, ?_⟩
          · exact et_not (ev_truB (ev_bor (ev_any (EvN.ev (evN_lcE (xs := (st level.length).1 ++ basis) (e := tI) D.bl (fun one => isUnder one row) (ei_list (EvN.ev (evN_catL (ev_var rfl) (ev_var rfl) (by omega)))) (by rw [List.length_append]; omega) fun one hone =>
              ⟨_, wpg_name (by decide), ev_call (ea_cons (ev_var rfl) (ea_cons (ev_var rfl) ea_nil)) fun k hk => ⟨one, row, rfl, by
                rcases List.mem_append.mp hone with hone | hone
                · rw [(stW level.length).1 one hone]; omega
                · rw [hbw one hone]; omega, hk⟩⟩))) rfl))
          · unfold levelM
            rfl
          · -- if len(level) > MOST_ROWS
            have hll : (levelM basis (st level.length)).length ≤ 50000 := Nat.le_trans (List.length_filter_le _ _) hs.2
            refine wps_if (et_test (ev_op (ev_len (ev_var rfl) (len_map tI _)) ev_int ro_cmp)) (fun c => ?_) (fun c => ?_)
            · exfalso
              have := of_decide_eq_true c
              omega
            · refine wps_next ⟨m, Nat.lt_succ_self m, (st level.length).1, levelM basis (st level.length), _, _, _, _, _, _, rfl, by rw [hst]; exact hl, (stW level.length).1, fun x hx => (stW level.length).2 x (List.mem_filter.mp hx).1⟩
  · have he : level.isEmpty = true := by simpa using hb
    have hres : found = res0 := by
      cases m with
      | zero => cases hl
      | succ m =>
        rw [loopM, if_pos he] at hl
        exact Option.some.inj hl
    subst hres
    refine wps_freeze 5 rfl (wps_ret (EvN.ev (evN_is (evN_cb (ea_cons (ev_var rfl) ea_nil) (rcn_sorted (n := 1) (pl_map pl_tI _) (by decide) (rows_alike _) (rows_sortable (n := wd - 1) (by rw [show wd - 1 + 1 = wd by omega]; exact wf)))) (by rw [sortD_rows] <;> rfl))) hk)
end
end K65

namespace K65
open PySem L2 DL
section
variable {P : Program} {w : World} {K : PySem.W.Frag} {mg : Str → Option Value} {base : Heap}
/-! subsets -/
abbrev s_subsets : Stmt := top 12
abbrev N_subsets : List Str := ["rows", "found", "row", "one"]
abbrev P_subsets : List Str := ["rows"]
theorem sc_subsets : FnScope N_subsets P_subsets (defScope s_subsets) := ⟨rfl, rfl, rfl, by decide +kernel, rfl, by decide +kernel, by decide +kernel⟩
/- 0:rows 1:found 2:row 3:one -/
def powM (rows : List (List Int)) : List (List (List Int)) := rows.foldl (fun f row => f ++ f.map fun one => one ++ [row]) [[]]
def setsD (xs : List (List (List Int))) : D := .lst (xs.map tR)
theorem powM_len (rows : List (List Int)) : (powM rows).length = 2 ^ rows.length := by
  unfold powM
  have : ∀ (rows : List (List Int)) (f : List (List (List Int))), (rows.foldl (fun f row => f ++ f.map fun one => one ++ [row]) f).length = f.length * 2 ^ rows.length := by
    intro rows
    induction rows with
    | nil => intro f; simp
    | cons r rows ih => intro f; rw [List.foldl_cons, ih, List.length_append, List.length_map, List.length_cons, Nat.pow_succ]; rw [← Nat.mul_two, Nat.mul_assoc, Nat.mul_comm 2]
  rw [this]; simp
theorem powM_each (rows : List (List Int)) : ∀ x ∈ powM rows, x.length ≤ rows.length := by
  unfold powM
  have : ∀ (rows : List (List Int)) (n : Nat) (f : List (List (List Int))), (∀ x ∈ f, x.length ≤ n) → ∀ x ∈ rows.foldl (fun f row => f ++ f.map fun one => one ++ [row]) f, x.length ≤ n + rows.length := by
    intro rows
    induction rows with
    | nil => intro n f h; simpa using h
    | cons r rows ih =>
      intro n f h x hx
      have := ih (n + 1) (f ++ f.map fun one => one ++ [r]) (fun y hy => by
        rcases List.mem_append.mp hy with hy | hy
        · exact Nat.le_succ_of_le (h y hy)
        · obtain ⟨z, hz, rfl⟩ := List.mem_map.mp hy
          have := h z hz
          simp; omega) x hx
      rw [List.length_cons]; omega
  intro x hx
  have := this rows 0 [[]] (fun y hy => by simp at hy; simp [hy]) x hx
  omega
def S_subsets (ds : List D) (k : D → Prop) : Prop := ∃ rows, ds = [rowsD rows] ∧ rows.length ≤ 10 ∧ k (setsD (powM rows))
theorem ok_subsets {f : Addr} {fd : FuncData} (F : Fun K "subsets" "subsets" s_subsets f fd) (T : Bl mg) : FnOk P w K mg base CX0 1 f fd P_subsets (spR S_subsets) := by
  refine fn_ok F sc_subsets (fun ds k ⟨_, e, _⟩ => by rw [e] <;> rfl) (by decide) (fun cdv A outer s H E hr => ⟨_, (pss_cons (ps_set (i := 1) sc_subsets.nd rfl (by first | exact Or.inl rfl | exact Or.inr rfl) (pe_lst (pa_cons (pe_tup pa_nil) pa_nil)))
      (pss_cons (ps_for PassesOwn.never rfl (DL.k_list (K := K) rfl (pv 0)) (pg_name (i := 2) sc_subsets.nd rfl (by first | exact Or.inl rfl | exact Or.inr rfl))
        (pss_one (ps_set (i := 1) sc_subsets.nd rfl (by first | exact Or.inl rfl | exact Or.inr rfl) (pe_op op_cat (pv 1) (pe_lc (own := [("one", 3)]) (g := (gName 3)) (tt := tYes) rfl sc_subsets.nd (DL.k_list (K := K) rfl (pv 1)) (blkOk_by (own := [("one", 3)]) (N := N_subsets) (sc := defScope s_subsets) (by decide +kernel)) (fun _ _ _ _ _ => by exact (pg_name (i := 3) sc_subsets.nd rfl (by first | exact Or.inl rfl | exact Or.inr rfl))) (fun _ _ _ _ _ => by exact pts_nil) (fun _ _ _ _ _ => by exact (pe_op (DL.k_catT (K := K) rfl) (pv 3) (pe_tup (pa_cons (pv 2) pa_nil)))))))))
      (pss_one (ps_ret (pv 1))))), fun ds k ⟨rows, e, hl, hk⟩ => ?_⟩)
  subst e
  refine wps_seq (wps_asg (d := setsD [[]]) (EvN.ev (evN_lst (ea_cons (ev_tup ea_nil (Nat.zero_le _)) ea_nil) (Nat.le_of_ble_eq_true rfl))) ?_)
  have len : ∀ i, (powM (rows.take i)).length ≤ 1024 ∧ ∀ x ∈ powM (rows.take i), x.length ≤ 10 := fun i => by
    have hi : (rows.take i).length ≤ 10 := by rw [List.length_take]; omega
    refine ⟨?_, fun x hx => Nat.le_trans (powM_each _ x hx) hi⟩
    rw [powM_len]
    exact Nat.le_trans (Nat.pow_le_pow_right (by decide) hi) (by decide)
  refine wps_seq (wps_forL (xs := rows) (e := tI) (ev_var rfl) (fun i env => ∃ s2 s3, env = [.fz (rowsD rows), .fz (setsD (powM (rows.take i))), s2, s3]) ⟨_, _, rfl⟩ ?_ ?_)
  · rintro i row env1 hi ⟨s2, s3, rfl⟩
    refine ⟨_, [2], wpg_name (by decide), ?_⟩
    have e : powM (rows.take (i + 1)) = powM (rows.take i) ++ (powM (rows.take i)).map fun one => one ++ [row] := foldl_take _ _ hi
    have hl1 := (len i).1
    refine wps_asg (d := setsD (powM (rows.take (i + 1)))) (ev_is (EvN.ev (evN_catL (e := tR) (ev_var rfl) (EvN.ev (evN_lcE (xs := powM (rows.take i)) (e := tR) tR (fun one => one ++ [row]) (ei_list (ev_var rfl)) (by omega) fun one ho =>
      ⟨_, wpg_name (by decide), ev_catT (e := tI) (ev_var rfl) (ev_tup1 (ev_var rfl)) (by have := (len i).2 one ho; simp; omega)⟩)) (by rw [List.length_map]; omega))) (by rw [e] <;> rfl)) ⟨_, _, rfl⟩
  · rintro env1 ⟨s2, s3, rfl⟩
    rw [List.take_length]
    exact wps_ret (ev_var rfl) hk
/-! sums_to -/
abbrev s_sums_to : Stmt := top 10
abbrev N_sums_to : List Str := ["gap", "left", "right", "row"]
abbrev P_sums_to : List Str := ["gap", "left", "right"]
theorem sc_sums_to : FnScope N_sums_to P_sums_to (defScope s_sums_to) := ⟨rfl, rfl, rfl, by decide +kernel, rfl, by decide +kernel, by decide +kernel⟩
/- 0:gap 1:left 2:right 3:row -/
def turnM (n : Nat) (row : List Int) : List Int := row.drop n ++ row.take n
def sumsM (gap : Int) (l r : List Int) : Option (List (List Int)) := if 0 ≤ gap then rowsForM l r gap else (rowsForM r l (-gap)).bind fun rows => if rows.length ≤ 1000 then some (isort leRow (rows.map (turnM r.length))) else none
def S_sums_to (ds : List D) (k : D → Prop) : Prop := ∃ gap l r res, ds = [.int gap, tI l, tI r] ∧ FacOk l r ∧ FacOk r l ∧ sumsM gap l r = some res ∧ k (rowsD res)
theorem rowsForM_wide {l r : List Int} {known : Int} {res : List (List Int)} (h : rowsForM l r known = some res) : Wide (l.length + r.length) res := by
  obtain ⟨basis, hb0, hm⟩ := Option.bind_eq_some_iff.mp h
  split at hm
  · obtain ⟨res0, hm0, rfl⟩ := Option.map_eq_some_iff.mp hm
    have hw := loopM_wide (fun x hx => by simp at hx) (fun x hx => by rw [List.mem_singleton.mp hx, List.length_replicate]) hm0
    exact fun x hx => hw x ((isort_perm leRow res0).mem_iff.mp hx)
  · cases hm
theorem ok_sums_to {f : Addr} {fd : FuncData} (F : Fun K "sums_to" "sums_to" s_sums_to f fd) (T : Bl mg) (C_rows_for : Cal P w K mg base 3 "rows_for" P_rows_for (spR S_rows_for)) : FnOk P w K mg base CX0 4 f fd P_sums_to (spR S_sums_to) := by
  refine fn_ok F sc_sums_to (fun ds k ⟨_, _, _, _, e, _⟩ => by rw [e] <;> rfl) (by decide) (fun cdv A outer s H E hr => ?_)
  have hu64 := hu64_of hr
  refine ⟨_, (pss_cons (ps_if (pt_cmpR op_ge (pv 0) pe_int (nomark _))
        (pss_one (ps_ret (DL.pe_cal C_rows_for (hr.mono (by decide)) (by rfl) (pa_cons (pv 1) (pa_cons (pv 2) (pa_cons (pv 0) pa_nil))))))
        pss_nil)
      (pss_one (ps_ret (pe_callB (id := "sorted") (DL.k_sorted (K := K) rfl hu64) (by rfl) T.m_sorted (by decide +kernel) (pa_cons (pe_lc (own := [("row", 3)]) (g := (gName 3)) (tt := tYes) rfl sc_sums_to.nd (DL.k_list (K := K) rfl (DL.pe_cal C_rows_for (hr.mono (by decide)) (by rfl) (pa_cons (pv 2) (pa_cons (pv 1) (pa_cons (pe_un un_neg (pv 0)) pa_nil))))) (blkOk_by (own := [("row", 3)]) (N := N_sums_to) (sc := defScope s_sums_to) (by decide +kernel)) (fun _ _ _ _ _ => by exact (pg_name (i := 3) sc_sums_to.nd rfl (by first | exact Or.inl rfl | exact Or.inr rfl))) (fun _ _ _ _ _ => by exact pts_nil) (fun _ _ _ _ _ => by exact (pe_op (DL.k_catT (K := K) rfl) (pe_slice (DL.k_slT (K := K) rfl) (pv 3) (po_some (pe_callB (id := "len") (DL.k_len (K := K) rfl) (by rfl) T.m_len (by decide +kernel) (pa_cons (pv 2) pa_nil))) po_none) (pe_slice (DL.k_slT (K := K) rfl) (pv 3) po_none (po_some (pe_callB (id := "len") (DL.k_len (K := K) rfl) (by rfl) T.m_len (by decide +kernel) (pa_cons (pv 2) pa_nil))))))) pa_nil))))), fun ds k ⟨gap, l, r, res, e, ok, ok', hm, hk⟩ => ?_⟩
  subst e
  unfold sumsM at hm
  refine wps_seq (wps_if (et_test (ev_op (ev_var rfl) ev_int ro_cmp)) (fun c => ?_) (fun c => ?_))
  · rw [if_pos (of_decide_eq_true c)] at hm
    exact wps_ret (ev_call (ea_cons (ev_var rfl) (ea_cons (ev_var rfl) (ea_cons (ev_var rfl) ea_nil))) fun k hk => ⟨l, r, gap, res, rfl, ok, ok'.2.2.2.2, hm, hk⟩) hk
  · rw [if_neg (of_decide_eq_false c)] at hm
    obtain ⟨rows, h1, h2⟩ := Option.bind_eq_some_iff.mp hm
    split at h2
    case isFalse => cases h2
    case isTrue hl =>
    cases h2
    have hw : Wide (l.length + r.length) (rows.map (turnM r.length)) := fun x hx => by
      obtain ⟨y, hy, rfl⟩ := List.mem_map.mp hx
      have := rowsForM_wide h1 y hy
      unfold turnM
      simp
      omega
    have hw0 := rowsForM_wide h1
    have l1 := ok.2.2.1
    have l2 := ok.2.2.2.1
    have l3 := ok.2.2.2.2
    refine wps_next (wps_ret (EvN.ev (evN_is (evN_cb (ea_cons (EvN.ev (evN_lcE (xs := rows) (e := tI) tI (turnM r.length) (ei_list (ev_call (d := rowsD rows) (ea_cons (ev_var rfl) (ea_cons (ev_var rfl) (ea_cons (ev_neg (ev_var rfl)) ea_nil))) fun k hk => ⟨r, l, -gap, rows, rfl, ok', l3, h1, hk⟩)) (by omega) fun row hrow =>
      ⟨_, wpg_name (by decide), ev_catI (ev_fromI (ev_var rfl) (ev_len (ev_var rfl) (len_tI r))) (ev_toI (ev_var rfl) (ev_len (ev_var rfl) (len_tI r))) (by have := hw0 row hrow; simp; omega)⟩)) ea_nil) (rcn_sorted (n := 1) (pl_map pl_tI _) (by decide) (rows_alike _) (rows_sortable (n := l.length + r.length - 1) (by rw [show l.length + r.length - 1 + 1 = l.length + r.length by omega]; exact hw)))) (by rw [sortD_rows] <;> rfl))) hk)
end
end K65

namespace K65
open PySem L2 DL
section
variable {P : Program} {w : World} {K : PySem.W.Frag} {mg : Str → Option Value} {base : Heap}
/-! side_sum -/
abbrev s_side_sum : Stmt := top 14
abbrev N_side_sum : List Str := ["side", "bags", "wide", "found", "at", "own", "factor", "bag"]
abbrev P_side_sum : List Str := ["side", "bags", "wide"]
theorem sc_side_sum : FnScope N_side_sum P_side_sum (defScope s_side_sum) := ⟨rfl, rfl, rfl, by decide +kernel, rfl, by decide +kernel, by decide +kernel⟩
/- 0:side 1:bags 2:wide 3:found 4:at 5:own 6:factor 7:bag -/
def ownAt (own : List Int) (a : Nat) : Int := if a < own.length then own.getD a 0 else 0
def partM (f : List Int) (bags : List (List Int)) (a : Nat) : List Int := ((f.zip bags).filter fun p => decide (a < p.2.length)).map fun p => p.1 * p.2.getD a 0
def sideM (f own : List Int) (bags : List (List Int)) (wide : Nat) : List Int := (List.range wide).map fun a => ownAt own a + (partM f bags a).sum
def S_side_sum (ds : List D) (k : D → Prop) : Prop := ∃ f own bags wide, ds = [tR [f, own], tR bags, .int ((wide : Nat) : Int)] ∧ (∀ x ∈ f, small x) ∧ f.length ≤ 100 ∧ wide ≤ 100 ∧ k (lI (sideM f own bags wide))
theorem ok_side_sum {f : Addr} {fd : FuncData} (F : Fun K "side_sum" "side_sum" s_side_sum f fd) (T : Bl mg) : FnOk P w K mg base CX0 1 f fd P_side_sum (spR S_side_sum) := by
  refine fn_ok F sc_side_sum (fun ds k ⟨_, _, _, _, e, _⟩ => by rw [e] <;> rfl) (by decide) (fun cdv A outer s H E hr => ⟨_, (pss_cons (ps_set (i := 3) sc_side_sum.nd rfl (by first | exact Or.inl rfl | exact Or.inr rfl) (pe_lst pa_nil))
      (pss_cons (ps_for PassesOwn.never rfl (pi_range1 (by rfl) T.m_range (pa_cons (pv 2) pa_nil)) (pg_name (i := 4) sc_side_sum.nd rfl (by first | exact Or.inl rfl | exact Or.inr rfl))
        (pss_cons (ps_set (i := 5) sc_side_sum.nd rfl (by first | exact Or.inl rfl | exact Or.inr rfl) (pe_ifExp (pt_cmpR op_lt (pv 4) (pe_callB (id := "len") (DL.k_len (K := K) rfl) (by rfl) T.m_len (by decide +kernel) (pa_cons (pe_ix (DL.k_ixT (K := K) rfl) (pv 0) pe_int (fun _ _ => rfl)) pa_nil)) (nomark _)) (pe_ix (DL.k_ixT (K := K) rfl) (pe_ix (DL.k_ixT (K := K) rfl) (pv 0) pe_int (fun _ _ => rfl)) (pv 4) (fun _ _ => rfl)) pe_int))
        (pss_one (ps_expr (pe_bm PySem.F.plainAttrs_list PySem.F.slot_list_append PySem.F.type_list_append mt_append (pv 3) (pa_cons (pe_op op_add (pv 5) (pe_callB (id := "sum") (DL.k_sum (K := K) rfl rfl) (by rfl) T.m_sum (by decide +kernel) (pa_cons (pe_lc (own := [("factor", 6), ("bag", 7)]) (g := (gTup K 2 (gCons (gName 6) (gCons (gName 7) gNil)))) (tt := _) rfl sc_side_sum.nd (DL.k_zip (K := K) rfl (by rfl) T.m_zip (pa_cons (pe_ix (DL.k_ixT (K := K) rfl) (pv 0) pe_int (fun _ _ => rfl)) (pa_cons (pv 1) pa_nil))) (blkOk_by (own := [("factor", 6), ("bag", 7)]) (N := N_side_sum) (sc := defScope s_side_sum) (by decide +kernel)) (fun _ _ _ _ _ => by exact (pg_tup rfl (pgs_cons (pg_name (i := 6) sc_side_sum.nd rfl (by first | exact Or.inl rfl | exact Or.inr rfl)) (pgs_cons (pg_name (i := 7) sc_side_sum.nd rfl (by first | exact Or.inl rfl | exact Or.inr rfl)) pgs_nil)))) (fun _ _ _ _ _ => by exact (pts_one (pt_cmpR op_lt (pv 4) (pe_callB (id := "len") (DL.k_len (K := K) rfl) (by rfl) T.m_len (by decide +kernel) (pa_cons (pv 7) pa_nil)) (nomark _)))) (fun _ _ _ _ _ => by exact (pe_op op_mul (pv 6) (pe_ix (DL.k_ixT (K := K) rfl) (pv 7) (pv 4) (fun _ _ => rfl))))) pa_nil))) pa_nil))))))
      (pss_one (ps_ret (pv 3))))), fun ds k ⟨f, own, bags, wide, e, hf, hl, hw, hk⟩ => ?_⟩)
  subst e
  refine wps_seq (wps_asgN (evN_lst ea_nil (by decide)) ?_)
  refine wps_seq (wps_for (xs := List.range wide) (e := fun (i : Nat) => D.int (i : Int)) (ei_rngN (ea_cons (ev_var rfl) ea_nil) (by omega)) (fun i env => ∃ s4 s5 s6 s7, env = [.fz (tR [f, own]), .fz (tR bags), .fz (.int (wide : Int)), .ow none (lI (((List.range wide).take i).map fun a => ownAt own a + (partM f bags a).sum)), s4, s5, s6, s7])
    ⟨_, _, _, _, rfl⟩ ?_ ?_)
  · rintro i a env1 hi ⟨s4, s5, s6, s7, rfl⟩
    refine ⟨_, [4], wpg_name (by decide), ?_⟩
    refine wps_seq (wps_asg (d := .int (ownAt own a)) (ev_if (et_test (ev_op (ev_var rfl) (ev_len (ev_ixT (j := 1) (ev_var rfl) ev_int rfl) (len_tI own)) ro_cmp)) (fun c => ?_) (fun c => ?_)) ?_)
    · have c' := of_decide_eq_true c
      exact ev_is (ev_ixI (ev_ixT (j := 1) (ev_var rfl) ev_int rfl) (ev_var rfl) (by omega)) (by unfold ownAt; rw [if_pos (by omega)])
    · have c' := of_decide_eq_false c
      exact ev_is ev_int (by unfold ownAt; rw [if_neg (by omega)])
    refine wps_app (i := 3) rfl (ev_add (ev_var rfl) (ev_sum (EvN.ev (evN_lcfE (xs := f.zip bags) D.int (fun p => decide (a < p.2.length)) (fun p => p.1 * p.2.getD a 0) (ei_zipE (e := D.int) (f := tI) (ea_cons (ev_ixT (j := 0) (ev_var rfl) ev_int rfl) (ea_cons (ev_var rfl) ea_nil))) (by rw [List.length_zip]; omega) fun p hp =>
      ⟨_, wpg_tup (wpgs_name (by decide) (wpgs_name (by decide) wpgs_nil)) rfl, et_is (et_test (ev_op (ev_var rfl) (ev_len (ev_var rfl) (len_tI p.2)) ro_cmp)) (decide_eq_decide.mpr (by omega)), fun h => ev_mul (ev_var rfl) (ev_ixI (ev_var rfl) (ev_var rfl) (of_decide_eq_true h)) (.inl (hf _ (List.of_mem_zip hp).1))⟩)))) ?_ ⟨.fz (.int (a : Int)), .fz (.int (ownAt own a)), s6, s7, ?_⟩
    · rw [List.length_map, List.length_map, List.length_take, List.length_range]; omega
    · rw [take_more hi, List.map_append]
      unfold lI partM
      rw [List.map_append] <;> rfl
  · rintro env1 ⟨s4, s5, s6, s7, rfl⟩
    refine wps_freeze 3 rfl (wps_ret (ev_is (ev_var rfl) ?_) hk)
    rw [List.take_length] <;> rfl
/-! is_solution -/
abbrev s_is_solution : Stmt := top 13
abbrev N_is_solution : List Str := ["left", "right", "bags", "wide", "bag", "first", "second"]
abbrev P_is_solution : List Str := ["left", "right", "bags"]
theorem sc_is_solution : FnScope N_is_solution P_is_solution (defScope s_is_solution) := ⟨rfl, rfl, rfl, by decide +kernel, rfl, by decide +kernel, by decide +kernel⟩
/- 0:left 1:right 2:bags 3:wide 4:bag 5:first 6:second -/
def lensM (bags : List (List Int)) (l1 r1 : List Int) : List Int := bags.map (fun b => (b.length : Int)) ++ [(l1.length : Int), (r1.length : Int)]
def isSolM (l0 l1 r0 r1 : List Int) (bags : List (List Int)) : Option Bool :=
  let wide := (maxL (lensM bags l1 r1)).toNat
  if maxL (lensM bags l1 r1) = (wide : Int) ∧ wide ≤ 100 ∧ bags.length ≤ 100 ∧ l0.length ≤ 100 ∧ r0.length ≤ 100 ∧ (∀ x ∈ l0, small x) ∧ (∀ x ∈ r0, small x) then
    some (if (bags.map fun b => b.any (· != 0)).all id then decide (sideM l0 l1 (bags.take l0.length) wide = sideM r0 r1 (bags.drop l0.length) wide) else false)
  else none
def S_is_solution (ds : List D) (k : D → Prop) : Prop := ∃ l0 l1 r0 r1 bags res, ds = [tR [l0, l1], tR [r0, r1], tR bags] ∧ isSolM l0 l1 r0 r1 bags = some res ∧ k (.bl res)
theorem ok_is_solution {f : Addr} {fd : FuncData} (F : Fun K "is_solution" "is_solution" s_is_solution f fd) (T : Bl mg) (C_side_sum : Cal P w K mg base 1 "side_sum" P_side_sum (spR S_side_sum)) : FnOk P w K mg base CX0 2 f fd P_is_solution (spR S_is_solution) := by
  refine fn_ok F sc_is_solution (fun ds k ⟨_, _, _, _, _, _, e, _⟩ => by rw [e] <;> rfl) (by decide) (fun cdv A outer s H E hr => ?_)
  have hu64 := hu64_of hr
  refine ⟨_, (pss_cons (ps_set (i := 3) sc_is_solution.nd rfl (by first | exact Or.inl rfl | exact Or.inr rfl) (pe_callB (id := "max") (DL.k_max (K := K) rfl rfl) (by rfl) T.m_max (by decide +kernel) (pa_cons (pe_op op_cat (pe_lc (own := [("bag", 4)]) (g := (gName 4)) (tt := tYes) rfl sc_is_solution.nd (DL.k_tup (K := K) rfl (pv 2)) (blkOk_by (own := [("bag", 4)]) (N := N_is_solution) (sc := defScope s_is_solution) (by decide +kernel)) (fun _ _ _ _ _ => by exact (pg_name (i := 4) sc_is_solution.nd rfl (by first | exact Or.inl rfl | exact Or.inr rfl))) (fun _ _ _ _ _ => by exact pts_nil) (fun _ _ _ _ _ => by exact (pe_callB (id := "len") (DL.k_len (K := K) rfl) (by rfl) T.m_len (by decide +kernel) (pa_cons (pv 4) pa_nil)))) (pe_lst (pa_cons (pe_callB (id := "len") (DL.k_len (K := K) rfl) (by rfl) T.m_len (by decide +kernel) (pa_cons (pe_ix (DL.k_ixT (K := K) rfl) (pv 0) pe_int (fun _ _ => rfl)) pa_nil)) (pa_cons (pe_callB (id := "len") (DL.k_len (K := K) rfl) (by rfl) T.m_len (by decide +kernel) (pa_cons (pe_ix (DL.k_ixT (K := K) rfl) (pv 1) pe_int (fun _ _ => rfl)) pa_nil)) pa_nil)))) pa_nil)))
      (pss_cons (ps_if (pt_not (DL.k_truth (K := K) rfl (pe_callB (id := "all") (DL.k_all (K := K) rfl rfl) (by rfl) T.m_all (by decide +kernel) (pa_cons (pe_lc (own := [("bag", 4)]) (g := (gName 4)) (tt := tYes) rfl sc_is_solution.nd (DL.k_tup (K := K) rfl (pv 2)) (blkOk_by (own := [("bag", 4)]) (N := N_is_solution) (sc := defScope s_is_solution) (by decide +kernel)) (fun _ _ _ _ _ => by exact (pg_name (i := 4) sc_is_solution.nd rfl (by first | exact Or.inl rfl | exact Or.inr rfl))) (fun _ _ _ _ _ => by exact pts_nil) (fun _ _ _ _ _ => by exact (pe_callB (id := "any") (DL.k_anyI (K := K) rfl rfl) (by rfl) T.m_any (by decide +kernel) (pa_cons (pv 4) pa_nil)))) pa_nil)) (by intro _; rfl)))
        (pss_one (ps_ret pe_bl))
        pss_nil)
      (pss_cons (ps_par (i := 5) (j := 6) (by rfl) sc_is_solution.nd rfl rfl (by decide) rfl rfl (pa_cons (pe_slice (DL.k_slT (K := K) rfl) (pv 2) po_none (po_some (pe_callB (id := "len") (DL.k_len (K := K) rfl) (by rfl) T.m_len (by decide +kernel) (pa_cons (pe_ix (DL.k_ixT (K := K) rfl) (pv 0) pe_int (fun _ _ => rfl)) pa_nil)))) (pa_cons (pe_slice (DL.k_slT (K := K) rfl) (pv 2) (po_some (pe_callB (id := "len") (DL.k_len (K := K) rfl) (by rfl) T.m_len (by decide +kernel) (pa_cons (pe_ix (DL.k_ixT (K := K) rfl) (pv 0) pe_int (fun _ _ => rfl)) pa_nil))) po_none) pa_nil)) (by rfl))
      (pss_one (ps_ret (pe_cmpR (DL.k_eqD (K := K) rfl hu64) (DL.pe_cal C_side_sum (hr.mono (by decide)) (by rfl) (pa_cons (pv 0) (pa_cons (pv 5) (pa_cons (pv 3) pa_nil)))) (DL.pe_cal C_side_sum (hr.mono (by decide)) (by rfl) (pa_cons (pv 1) (pa_cons (pv 6) (pa_cons (pv 3) pa_nil)))) (nomark _))))))), fun ds k ⟨l0, l1, r0, r1, bags, res, e, hm, hk⟩ => ?_⟩
  subst e
  unfold isSolM at hm
  dsimp only at hm
  split at hm
  case isFalse => cases hm
  case isTrue hc =>
  obtain ⟨hw, hw2, hb, hl0, hr0, hs1, hs2⟩ := hc
  have hres := Option.some.inj hm
  refine wps_seq (wps_asg (d := .int (((maxL (lensM bags l1 r1)).toNat : Nat) : Int)) (ev_is (ev_max (ns := lensM bags l1 r1) (EvN.ev (evN_is (evN_catL (e := D.int) (EvN.ev (evN_lcE (xs := bags) (e := tI) D.int (fun b => (b.length : Int)) (ei_tup (ev_var rfl)) (by omega) fun b _ =>
    ⟨_, wpg_name (by decide), ev_len (ev_var rfl) (len_tI b)⟩)) (EvN.ev (evN_lst (ds := [(l1.length : Int), (r1.length : Int)].map D.int) (ea_cons (ev_len (ev_ixT (j := 1) (ev_var rfl) ev_int rfl) (len_tI l1)) (ea_cons (ev_len (ev_ixT (j := 1) (ev_var rfl) ev_int rfl) (len_tI r1)) ea_nil)) (Nat.le_of_ble_eq_true rfl))) (by rw [List.length_map]; simp; omega)) rfl)) (by unfold lensM; simp)) (by rw [← hw])) ?_)
  refine wps_seq (wps_if (et_not (ev_truB (ev_all (EvN.ev (evN_lcE (xs := bags) (e := tI) D.bl (fun b => b.any (· != 0)) (ei_tup (ev_var rfl)) (by omega) fun b _ =>
    ⟨_, wpg_name (by decide), ev_anyI (ev_var rfl)⟩))))) (fun c => ?_) (fun c => ?_))
  · rw [if_neg (by simpa using c)] at hres
    refine wps_ret ev_bl ?_
    rwa [hres]
  · rw [if_pos (by simpa using c)] at hres
    refine wps_next (wps_seq (wps_par (ea_cons (ev_toT (e := tI) (ev_var rfl) (ev_len (ev_ixT (j := 0) (ev_var rfl) ev_int rfl) (len_tI l0))) (ea_cons (ev_fromT (e := tI) (ev_var rfl) (ev_len (ev_ixT (j := 0) (ev_var rfl) ev_int rfl) (len_tI l0))) ea_nil)) ?_))
    refine wps_ret (ev_eqF (e := lI) faith_lI (n := 1) (ev_call (ea_cons (ev_var rfl) (ea_cons (ev_var rfl) (ea_cons (ev_var rfl) ea_nil))) fun k hk => ⟨l0, l1, bags.take l0.length, _, rfl, hs1, hl0, hw2, hk⟩)
      (ev_call (ea_cons (ev_var rfl) (ea_cons (ev_var rfl) (ea_cons (ev_var rfl) ea_nil))) fun k hk => ⟨r0, r1, bags.drop l0.length, _, rfl, hs2, hr0, hw2, hk⟩) (pl_lI _) (pl_lI _)) ?_
    rwa [hres]
end
end K65

namespace K65
open PySem L2 DL
section
variable {P : Program} {w : World} {K : PySem.W.Frag} {mg : Str → Option Value} {base : Heap}
/-! under -/
abbrev s_under : Stmt := top 17
abbrev N_under : List Str := ["rest", "rows", "number", "places", "wide", "tops", "at", "thing", "found", "top", "one", "x"]
abbrev P_under : List Str := ["rest", "rows", "number", "places"]
theorem sc_under : FnScope N_under P_under (defScope s_under) := ⟨rfl, rfl, rfl, by decide +kernel, rfl, by decide +kernel, by decide +kernel⟩
/- 0:rest 1:rows 2:number 3:places 4:wide 5:tops 6:at 7:thing 8:found 9:top 10:one 11:x -/
def at2 (rows : List (List Int)) (i j : Nat) : Int := (rows.getD i []).getD j 0
def topM (rest rows : List (List Int)) (number : Nat) (places : List Nat) (thing : Nat) : Int := minL (places.map fun a => (at2 rest a thing).fdiv (at2 rows a number))
def widen (found : List (List Int)) (top : Int) : List (List Int) := (found.map fun one => (List.range (top + 1 - 0).toNat).map fun (a : Nat) => one ++ [0 + (a : Int)]).flatten
def topsM (rest rows : List (List Int)) (number : Nat) (places : List Nat) : List Int := (List.range (rest.getD 0 []).length).map (topM rest rows number places)
def widens : List Int → List (List Int) → Option (List (List Int))
  | [], found => some found
  | top :: tops, found => if -1 ≤ top ∧ top ≤ 50 ∧ found.length ≤ 1000 ∧ (widen found top).length ≤ 4096 ∧ (∀ one ∈ found, one.length ≤ 1000) then widens tops (widen found top) else none
def okU (rest rows : List (List Int)) (number : Nat) (places : List Nat) : Prop := 0 < rest.length ∧ places ≠ [] ∧ places.length ≤ 1000 ∧ (rest.getD 0 []).length ≤ 1000 ∧
  ∀ a ∈ places, a < rows.length ∧ a < rest.length ∧ (rest.getD a []).length = (rest.getD 0 []).length ∧ number < (rows.getD a []).length ∧ 0 < at2 rows a number ∧ at2 rows a number < 1000000
instance (rest rows : List (List Int)) (number : Nat) (places : List Nat) : Decidable (okU rest rows number places) := by unfold okU; infer_instance
def underM (rest rows : List (List Int)) (number : Nat) (places : List Nat) : Option (List (List Int)) :=
  if okU rest rows number places then (widens (topsM rest rows number places) [[]]).bind fun f => if f.length ≤ 5000 then some (f.filter fun one => one.any (· != 0)) else none else none
def natsD (ps : List Nat) : D := .lst (ps.map fun (p : Nat) => D.int (p : Int))
def S_under (ds : List D) (k : D → Prop) : Prop := ∃ rest rows number places res, ds = [rowsD rest, rowsD rows, .int ((number : Nat) : Int), natsD places] ∧ underM rest rows number places = some res ∧ k (rowsD res)
theorem get_lt {α : Type} {l : List α} {i : Nat} {x : α} (h : i < l.length) : l[i]? = some (l.getD i x) := by
  rw [List.getD_eq_getElem?_getD]; simp [h]
theorem ok_under {f : Addr} {fd : FuncData} (F : Fun K "under" "under" s_under f fd) (T : Bl mg) {tS : Tok} (c_MOST_SETS : mg "MOST_SETS" = some (.int 4096 tS)) : FnOk P w K mg base CX0 1 f fd P_under (spR S_under) := by
  refine fn_ok F sc_under (fun ds k ⟨_, _, _, _, _, e, _⟩ => by rw [e] <;> rfl) (by decide) (fun cdv A outer s H E hr => ⟨_, (pss_cons (ps_set (i := 4) sc_under.nd rfl (by first | exact Or.inl rfl | exact Or.inr rfl) (pe_callB (id := "len") (DL.k_len (K := K) rfl) (by rfl) T.m_len (by decide +kernel) (pa_cons (pe_ix (DL.k_ixL (K := K) rfl) (pv 0) pe_int (fun _ _ => rfl)) pa_nil)))
      (pss_cons (ps_setLc (i := 5) (own := [("thing", 7)]) (g := (gName 7)) (tt := tYes) rfl sc_under.nd rfl rfl (sw_true rfl rfl rfl (by decide +kernel)) (pi_range1 (by rfl) T.m_range (pa_cons (pv 4) pa_nil)) (blkOk_by (own := [("thing", 7)]) (N := N_under) (sc := defScope s_under) (by decide +kernel)) (fun _ _ _ _ _ => by exact (pg_name (i := 7) sc_under.nd rfl (by first | exact Or.inl rfl | exact Or.inr rfl))) (fun _ _ _ _ _ => by exact pts_nil) (fun _ _ _ _ _ => by exact (pe_callB (id := "min") (DL.k_min (K := K) rfl rfl) (by rfl) T.m_min (by decide +kernel) (pa_cons (pe_lc (own := [("at", 6)]) (g := (gName 6)) (tt := tYes) rfl sc_under.nd (DL.k_list (K := K) rfl (pv 3)) (blkOk_by (own := [("at", 6)]) (N := N_under) (sc := _) (by first | rfl | kernel_rfl)) (fun _ _ _ _ _ => by exact (pg_name (i := 6) sc_under.nd rfl (by first | exact Or.inl rfl | exact Or.inr rfl))) (fun _ _ _ _ _ => by exact pts_nil) (fun _ _ _ _ _ => by exact (pe_op op_fdivN (pe_ix (DL.k_ixT (K := K) rfl) (pe_ix (DL.k_ixL (K := K) rfl) (pv 0) (pv 6) (fun _ _ => rfl)) (pv 7) (fun _ _ => rfl)) (pe_ix (DL.k_ixT (K := K) rfl) (pe_ix (DL.k_ixL (K := K) rfl) (pv 1) (pv 6) (fun _ _ => rfl)) (pv 2) (fun _ _ => rfl))))) pa_nil))))
      (pss_cons (ps_set (i := 8) sc_under.nd rfl (by first | exact Or.inl rfl | exact Or.inr rfl) (pe_lst (pa_cons (pe_tup pa_nil) pa_nil)))
      (pss_cons (ps_for PassesOwn.never rfl (DL.k_list (K := K) rfl (pv 5)) (pg_name (i := 9) sc_under.nd rfl (by first | exact Or.inl rfl | exact Or.inr rfl))
        (pss_cons (ps_setLc2 (i := 8) (own := [("one", 10), ("x", 11)]) (vs1 := [11]) (g := (gName 10)) (tt := tYes) (g1 := (gName 11)) (tt1 := tYes) rfl sc_under.nd rfl rfl (sw_true rfl rfl rfl (by decide +kernel)) (DL.k_list (K := K) rfl (pv 8)) (blkOk_by (own := [("one", 10), ("x", 11)]) (N := N_under) (sc := defScope s_under) (by decide +kernel)) (by decide) (fun _ _ _ _ _ => by exact (pg_name (i := 10) sc_under.nd rfl (by first | exact Or.inl rfl | exact Or.inr rfl))) (fun _ _ _ _ _ => by exact pts_nil) (fun _ _ _ _ _ => by exact (pi_range1 (by rfl) T.m_range (pa_cons (pe_op op_add (pv 9) pe_int) pa_nil))) (fun _ _ _ _ _ => by exact (pg_name (i := 11) sc_under.nd rfl (by first | exact Or.inl rfl | exact Or.inr rfl))) (fun _ _ _ _ _ => by exact pts_nil) (fun _ _ _ _ _ => by exact (pe_op (DL.k_catT (K := K) rfl) (pv 10) (pe_tup (pa_cons (pv 11) pa_nil)))))
        (pss_one (ps_if (pt_cmpR op_gt (pe_callB (id := "len") (DL.k_len (K := K) rfl) (by rfl) T.m_len (by decide +kernel) (pa_cons (pv 8) pa_nil)) (pe_glob (v := .int 4096) rfl c_MOST_SETS ⟨_, rfl⟩) (nomark _))
          (pss_one ps_never)
          pss_nil))))
      (pss_one (ps_ret (pe_lc (own := [("one", 10)]) (g := (gName 10)) (tt := _) rfl sc_under.nd (DL.k_list (K := K) rfl (pv 8)) (blkOk_by (own := [("one", 10)]) (N := N_under) (sc := defScope s_under) (by decide +kernel)) (fun _ _ _ _ _ => by exact (pg_name (i := 10) sc_under.nd rfl (by first | exact Or.inl rfl | exact Or.inr rfl))) (fun _ _ _ _ _ => by exact (pts_one (DL.k_truth (K := K) rfl (pe_callB (id := "any") (DL.k_anyI (K := K) rfl rfl) (by rfl) T.m_any (by decide +kernel) (pa_cons (pv 10) pa_nil)) (by intro _; rfl)))) (fun _ _ _ _ _ => by exact (pv 10))))))))), fun ds k ⟨rest, rows, number, places, res, e, hm, hk⟩ => ?_⟩)
  subst e
  unfold underM at hm
  split at hm
  case isFalse => cases hm
  case isTrue hc =>
  obtain ⟨h0, hp0, hp1, hw, hall⟩ := hc
  obtain ⟨fin, hm, hfin⟩ := Option.bind_eq_some_iff.mp hm
  split at hfin
  case isFalse => cases hfin
  case isTrue hfl =>
  have hres := Option.some.inj hfin
  let wd := (rest.getD 0 []).length
  refine wps_seq (wps_asg (d := .int (wd : Int)) (ev_len (ev_ixLE (e := tI) (j := 0) (ev_var rfl) ev_int (get_lt (x := []) h0)) (len_tI _)) ?_)
  refine wps_seq (wps_asg (d := lI (topsM rest rows number places)) (EvN.ev (evN_lcE (xs := List.range wd) (e := fun (i : Nat) => D.int (i : Int)) D.int (topM rest rows number places) (ei_rngN (ea_cons (ev_var rfl) ea_nil) (by omega)) (by rw [List.length_range]; omega) fun thing ht =>
    ⟨_, wpg_name (by decide), ev_min (EvN.ev (evN_lcE (xs := places) (e := fun (i : Nat) => D.int (i : Int)) D.int (fun a => (at2 rest a thing).fdiv (at2 rows a number)) (ei_list (ev_var rfl)) (by omega) fun a ha =>
      ⟨_, wpg_name (by decide), ev_fdiv (ev_ixI (ev_ixLE (e := tI) (ev_var rfl) (ev_var rfl) (get_lt (x := []) (hall a ha).2.1)) (ev_var rfl) (by rw [(hall a ha).2.2.1]; exact List.mem_range.mp ht)) (ev_ixI (ev_ixLE (e := tI) (ev_var rfl) (ev_var rfl) (get_lt (x := []) (hall a ha).1)) (ev_var rfl) (hall a ha).2.2.2.1) (by
        have := (hall a ha).2.2.2.2
        unfold CDivN at2 at *
        omega)⟩)) (by simpa using hp0)⟩)) ?_)
  refine wps_seq (wps_asg (d := rowsD [[]]) (EvN.ev (evN_lst (ea_cons (ev_tup ea_nil (Nat.zero_le _)) ea_nil) (Nat.le_of_ble_eq_true rfl))) ?_)
  let tops := topsM rest rows number places
  refine wps_seq (wps_forL (xs := tops) (e := D.int) (ev_var rfl) (fun i env => ∃ found s6 s7 s9 s10 s11, env = [.fz (rowsD rest), .fz (rowsD rows), .fz (.int (number : Int)), .fz (natsD places), .fz (.int (wd : Int)), .fz (lI tops), s6, s7, .fz (rowsD found), s9, s10, s11] ∧ widens (tops.drop i) found = some fin)
    ⟨_, _, _, _, _, _, rfl, hm⟩ ?_ ?_)
  · rintro i top env1 hi ⟨found, s6, s7, s9, s10, s11, rfl, hd⟩
    obtain ⟨hi', rfl⟩ := List.getElem?_eq_some_iff.mp hi
    rw [List.drop_eq_getElem_cons hi', widens] at hd
    split at hd
    case isFalse => cases hd
    case isTrue ht =>
    obtain ⟨t1, t2, t3, t4, t5⟩ := ht
    refine ⟨_, [9], wpg_name (by decide), ?_⟩
    refine wps_seq (wps_asg (d := rowsD (widen found tops[i])) (EvN.ev (evN_is (evN_lc2 (xs := found) (e := tI) (fun _ => List.range (tops[i] + 1 - 0).toNat) (fun _ (a : Nat) => D.int (0 + (a : Int))) (fun one a => tI (one ++ [0 + (a : Int)])) 51 (ei_list (ev_var rfl)) (by omega) (fun x _ => by rw [List.length_range]; omega) fun one ho =>
      ⟨_, wpg_name (by decide), ei_rng1 (ea_cons (ev_add (ev_var rfl) ev_int) ea_nil) (by omega) (by omega), fun a ha => ⟨_, wpg_name (by decide), ev_catI (ev_var rfl) (ev_tup1I (ev_var rfl)) (by have := t5 one ho; simp; omega)⟩⟩) (by
        unfold rowsD widen
        rw [List.map_flatten, List.map_map]
        refine congrArg (fun l => D.lst (List.flatten l)) (List.map_congr_left fun x _ => ?_)
        show _ = List.map tI (List.map _ _)
        rw [List.map_map] <;> rfl))) ?_)
    refine wps_if (et_test (ev_op (ev_len (ev_var rfl) (len_map tI _)) ev_int ro_cmp)) (fun c => ?_) (fun c => wps_next ⟨_, _, _, _, _, _, rfl, hd⟩)
    exfalso
    have := of_decide_eq_true c
    omega
  · rintro env1 ⟨found, s6, s7, s9, s10, s11, rfl, hd⟩
    rw [List.drop_length] at hd
    have hff : found = fin := Option.some.inj hd
    subst hff
    refine wps_ret (EvN.ev (evN_is (evN_lcfE (xs := found) (e := tI) tI (fun one => one.any (· != 0)) id (ei_list (ev_var rfl)) (by omega) fun one ho =>
      ⟨_, wpg_name (by decide), ev_truB (ev_anyI (ev_var rfl)), fun _ => ev_var rfl⟩) (by rw [List.map_id, hres] <;> rfl))) hk
/-! can_fill -/
abbrev s_can_fill : Stmt := top 16
abbrev N_can_fill : List Str := ["rows", "rest", "many", "row", "places", "at", "bag", "behind", "a", "b"]
abbrev P_can_fill : List Str := ["rows", "rest", "many"]
theorem sc_can_fill : FnScope N_can_fill P_can_fill (defScope s_can_fill) := ⟨rfl, rfl, rfl, by decide +kernel, rfl, by decide +kernel, by decide +kernel⟩
/- 0:rows 1:rest 2:many 3:row 4:places 5:at 6:bag 7:behind 8:a 9:b -/
def anyO : List (Option Bool) → Option Bool
  | [] => some false
  | some true :: _ => some true
  | some false :: r => anyO r
  | none :: _ => none
def fillPlaces (rows : List (List Int)) (n : Nat) : List Nat := (List.range rows.length).filter fun a => decide (0 < at2 rows a n)
def behindM (rows rest : List (List Int)) (n : Nat) (bag : List Int) : List (List Int) := rest.mapIdx fun a row => (row.zip bag).map fun p => p.1 - at2 rows a n * p.2
def okF (rows rest : List (List Int)) (n : Nat) : Prop := rows.length = rest.length ∧ rows.length ≤ 100 ∧ (∀ row ∈ rest, row.length ≤ 100) ∧ ∀ row ∈ rows, n < row.length ∧ small (row.getD n 0)
instance (rows rest : List (List Int)) (n : Nat) : Decidable (okF rows rest n) := by unfold okF; infer_instance
def fillsM : Nat → List (List Int) → List (List Int) → Option Bool
  | 0, _, rest => if rest.length ≤ 100 then some (!(rest.map fun row => row.any (· != 0)).any id) else none
  | n + 1, rows, rest => if okF rows rest n then
      if (fillPlaces rows n).isEmpty then some false else (underM rest rows n (fillPlaces rows n)).bind fun bags =>
        anyO (bags.map fun bag => fillsM n (rows.map fun row => row.take n) (behindM rows rest n bag))
    else none
def S_can_fill (n : Nat) (ds : List D) (k : D → Prop) : Prop := ∃ rows rest res, ds = [rowsD rows, rowsD rest, .int ((n : Nat) : Int)] ∧ fillsM n rows rest = some res ∧ k (.bl res)
theorem enum_rows (rest : List (List Int)) : ((rest.map tI).mapIdx fun i x => D.tup [.int (i : Nat), x]) = (rest.mapIdx fun i r => (i, r)).map fun p => D.tup [.int (p.1 : Int), tI p.2] := by
  refine List.ext_getElem? fun i => ?_
  rw [List.getElem?_mapIdx, List.getElem?_map, List.getElem?_map, List.getElem?_mapIdx]
  cases rest[i]? <;> rfl
theorem mapIdx_take_more {α β : Type} {f : Nat → α → β} {l : List α} {i : Nat} {x : α} (h : l[i]? = some x) : (l.mapIdx f).take (i + 1) = (l.mapIdx f).take i ++ [f i x] :=
  take_more (by rw [List.getElem?_mapIdx, h] <;> rfl)
theorem anyO_drop {f : List Int → Option Bool} {bags : List (List Int)} {i : Nat} {bag : List Int} {res : Bool} (hi : bags[i]? = some bag) (h : anyO ((bags.drop i).map f) = some res) :
    (f bag = some true ∧ res = true) ∨ (f bag = some false ∧ anyO ((bags.drop (i + 1)).map f) = some res) := by
  obtain ⟨hl, rfl⟩ := List.getElem?_eq_some_iff.mp hi
  rw [List.drop_eq_getElem_cons hl, List.map_cons] at h
  match e : f bags[i] with
  | none => rw [e] at h; cases h
  | some true => rw [e] at h; exact .inl ⟨rfl, (Option.some.inj h).symm⟩
  | some false => rw [e] at h; exact .inr ⟨rfl, h⟩
end
end K65

namespace K65
open PySem L2 DL
section
variable {P : Program} {w : World} {K : PySem.W.Frag} {mg : Str → Option Value} {base : Heap}
theorem can_fill_step {k : Nat} {S' : List D → (D → Prop) → Prop} {f : Addr} {fd : FuncData} (F : Fun K "can_fill" "can_fill" s_can_fill f fd) (T : Bl mg)
    (C_under : Cal P w K mg base 1 "under" P_under (spR S_under)) (C_can_fill : Cal P w K mg base (k + 1) "can_fill" P_can_fill (spR S')) (n : Nat) (hS : ∀ m, n = m + 1 → ∀ ds kk, S_can_fill m ds kk → S' ds kk) : FnOk P w K mg base CX0 (k + 2) f fd P_can_fill (spR (S_can_fill n)) := by
  refine fn_ok F sc_can_fill (fun ds k ⟨_, _, _, e, _⟩ => by rw [e] <;> rfl) (by decide) (fun cdv A outer s H E hr => ?_)
  have hu64 := hu64_of hr
  refine ⟨_, (pss_cons (ps_if (pt_cmpR (DL.k_eqD (K := K) rfl hu64) (pv 2) pe_int (nomark _))
        (pss_one (ps_ret (pe_not (pe_callB (id := "any") (DL.k_any (K := K) rfl rfl) (by rfl) T.m_any (by decide +kernel) (pa_cons (pe_lc (own := [("row", 3)]) (g := (gName 3)) (tt := tYes) rfl sc_can_fill.nd (DL.k_list (K := K) rfl (pv 1)) (blkOk_by (own := [("row", 3)]) (N := N_can_fill) (sc := defScope s_can_fill) (by decide +kernel)) (fun _ _ _ _ _ => by exact (pg_name (i := 3) sc_can_fill.nd rfl (by first | exact Or.inl rfl | exact Or.inr rfl))) (fun _ _ _ _ _ => by exact pts_nil) (fun _ _ _ _ _ => by exact (pe_callB (id := "any") (DL.k_anyI (K := K) rfl rfl) (by rfl) T.m_any (by decide +kernel) (pa_cons (pv 3) pa_nil)))) pa_nil)))))
        pss_nil)
      (pss_cons (ps_setLc (i := 4) (own := [("at", 5)]) (g := (gName 5)) (tt := _) rfl sc_can_fill.nd rfl rfl (sw_true rfl rfl rfl (by decide +kernel)) (pi_range1 (by rfl) T.m_range (pa_cons (pe_callB (id := "len") (DL.k_len (K := K) rfl) (by rfl) T.m_len (by decide +kernel) (pa_cons (pv 0) pa_nil)) pa_nil)) (blkOk_by (own := [("at", 5)]) (N := N_can_fill) (sc := defScope s_can_fill) (by decide +kernel)) (fun _ _ _ _ _ => by exact (pg_name (i := 5) sc_can_fill.nd rfl (by first | exact Or.inl rfl | exact Or.inr rfl))) (fun _ _ _ _ _ => by exact (pts_one (pt_cmpR op_gt (pe_ix (DL.k_ixT (K := K) rfl) (pe_ix (DL.k_ixL (K := K) rfl) (pv 0) (pv 5) (fun _ _ => rfl)) (pe_op op_sub (pv 2) pe_int) (fun _ _ => rfl)) pe_int (nomark _)))) (fun _ _ _ _ _ => by exact (pv 5)))
      (pss_cons (ps_if (pt_not (DL.k_truth (K := K) rfl (pv 4) (by intro _; rfl)))
        (pss_one (ps_ret pe_bl))
        pss_nil)
      (pss_cons (ps_for PassesOwn.never rfl (DL.k_list (K := K) rfl (DL.pe_cal C_under (hr.mono (by first | decide | omega)) (by rfl) (pa_cons (pv 1) (pa_cons (pv 0) (pa_cons (pe_op op_sub (pv 2) pe_int) (pa_cons (pv 4) pa_nil)))))) (pg_name (i := 6) sc_can_fill.nd rfl (by first | exact Or.inl rfl | exact Or.inr rfl))
        (pss_cons (ps_set (i := 7) sc_can_fill.nd rfl (by first | exact Or.inl rfl | exact Or.inr rfl) (pe_lst pa_nil))
        (pss_cons (ps_for PassesOwn.never rfl (DL.k_enum (K := K) rfl (by rfl) T.m_enumerate (pa_cons (pv 1) pa_nil)) (pg_tup rfl (pgs_cons (pg_name (i := 5) sc_can_fill.nd rfl (by first | exact Or.inl rfl | exact Or.inr rfl)) (pgs_cons (pg_name (i := 3) sc_can_fill.nd rfl (by first | exact Or.inl rfl | exact Or.inr rfl)) pgs_nil)))
          (pss_one (ps_expr (pe_bm PySem.F.plainAttrs_list PySem.F.slot_list_append PySem.F.type_list_append mt_append (pv 7) (pa_cons (pe_callTy (T := "tuple") (DL.k_tupleOf (K := K) rfl) (by rfl) T.m_tuple (by decide +kernel) (pa_cons (pe_lc (own := [("a", 8), ("b", 9)]) (g := (gTup K 2 (gCons (gName 8) (gCons (gName 9) gNil)))) (tt := tYes) rfl sc_can_fill.nd (DL.k_zip (K := K) rfl (by rfl) T.m_zip (pa_cons (pv 3) (pa_cons (pv 6) pa_nil))) (blkOk_by (own := [("a", 8), ("b", 9)]) (N := N_can_fill) (sc := defScope s_can_fill) (by decide +kernel)) (fun _ _ _ _ _ => by exact (pg_tup rfl (pgs_cons (pg_name (i := 8) sc_can_fill.nd rfl (by first | exact Or.inl rfl | exact Or.inr rfl)) (pgs_cons (pg_name (i := 9) sc_can_fill.nd rfl (by first | exact Or.inl rfl | exact Or.inr rfl)) pgs_nil)))) (fun _ _ _ _ _ => by exact pts_nil) (fun _ _ _ _ _ => by exact (pe_op op_sub (pv 8) (pe_op op_mul (pe_ix (DL.k_ixT (K := K) rfl) (pe_ix (DL.k_ixL (K := K) rfl) (pv 0) (pv 5) (fun _ _ => rfl)) (pe_op op_sub (pv 2) pe_int) (fun _ _ => rfl)) (pv 9))))) pa_nil)) pa_nil)))))
        (pss_one (ps_if (DL.k_truth (K := K) rfl (DL.pe_cal C_can_fill (hr.mono (by first | decide | omega)) (by rfl) (pa_cons (pe_lc (own := [("row", 3)]) (g := (gName 3)) (tt := tYes) rfl sc_can_fill.nd (DL.k_list (K := K) rfl (pv 0)) (blkOk_by (own := [("row", 3)]) (N := N_can_fill) (sc := defScope s_can_fill) (by decide +kernel)) (fun _ _ _ _ _ => by exact (pg_name (i := 3) sc_can_fill.nd rfl (by first | exact Or.inl rfl | exact Or.inr rfl))) (fun _ _ _ _ _ => by exact pts_nil) (fun _ _ _ _ _ => by exact (pe_slice (DL.k_slT (K := K) rfl) (pv 3) po_none (po_some (pe_op op_sub (pv 2) pe_int))))) (pa_cons (pv 7) (pa_cons (pe_op op_sub (pv 2) pe_int) pa_nil)))) (by intro _; rfl))
          (pss_one (ps_ret pe_bl))
          pss_nil)))))
      (pss_one (ps_ret pe_bl)))))), fun ds k ⟨rows, rest, res, e, hm, hk⟩ => ?_⟩
  subst e
  refine wps_seq (wps_if (et_test (ev_eqI (ev_var rfl) ev_int)) (fun c => ?_) (fun c => ?_))
  · have c' := of_decide_eq_true c
    have hn : n = 0 := by omega
    subst hn
    rw [fillsM] at hm
    split at hm
    case isFalse => cases hm
    case isTrue hl =>
    have hres := Option.some.inj hm
    refine wps_ret (ev_notV (ev_any (EvN.ev (evN_lcE (xs := rest) (e := tI) D.bl (fun row => row.any (· != 0)) (ei_list (ev_var rfl)) (by omega) fun row _ =>
      ⟨_, wpg_name (by decide), ev_anyI (ev_var rfl)⟩)))) ?_
    rwa [hres]
  · have c' := of_decide_eq_false c
    obtain ⟨m, rfl⟩ : ∃ m, n = m + 1 := ⟨n - 1, by omega⟩
    have hsub : D.int (((m + 1 : Nat) : Int) - 1) = D.int (m : Int) := congrArg D.int (by omega)
    rw [fillsM] at hm
    split at hm
    case isFalse => cases hm
    case isTrue hc =>
    obtain ⟨hl, hl2, hw, hr2⟩ := hc
    refine wps_next (wps_seq (wps_asg (d := natsD (fillPlaces rows m)) (EvN.ev (evN_is (evN_lcfE (xs := List.range rows.length) (e := fun (i : Nat) => D.int (i : Int)) (fun (i : Nat) => D.int (i : Int)) (fun a => decide (0 < at2 rows a m)) id (ei_rngN (ea_cons (ev_len (ev_var rfl) (len_map tI rows)) ea_nil) (by omega)) (by rw [List.length_range]; omega) fun a ha =>
      ⟨_, wpg_name (by decide), et_test (ev_op (ev_ixI (ev_ixLE (e := tI) (ev_var rfl) (ev_var rfl) (get_lt (x := []) (List.mem_range.mp ha))) (ev_is (ev_sub (ev_var rfl) ev_int) hsub) (by
        have := hr2 (rows.getD a []) (List.mem_of_getElem? (get_lt (List.mem_range.mp ha)))
        exact this.1)) ev_int ro_cmp), fun _ => ev_var rfl⟩) (by rw [List.map_id] <;> rfl))) ?_))
    refine wps_seq (wps_if (et_not (ev_truL (e := fun (p : Nat) => D.int (p : Int)) (ev_var rfl))) (fun c => ?_) (fun c => ?_))
    · rw [if_pos (by simpa using c)] at hm
      have hres := Option.some.inj hm
      refine wps_ret ev_bl ?_
      rwa [hres]
    · rw [if_neg (by simpa using c)] at hm
      obtain ⟨bags, hb, hany⟩ := Option.bind_eq_some_iff.mp hm
      let go : List Int → Option Bool := fun bag => fillsM m (rows.map fun row => row.take m) (behindM rows rest m bag)
      refine wps_next (wps_seq (wps_forL (xs := bags) (e := tI) (ev_call (d := rowsD bags) (ea_cons (ev_var rfl) (ea_cons (ev_var rfl) (ea_cons (ev_is (ev_sub (ev_var rfl) ev_int) hsub) (ea_cons (ev_var rfl) ea_nil)))) fun k hk => ⟨rest, rows, m, _, bags, rfl, hb, hk⟩)
        (fun i env => ∃ s3 s5 s6 s7 s8 s9, env = [.fz (rowsD rows), .fz (rowsD rest), .fz (.int ((m + 1 : Nat) : Int)), s3, .fz (natsD (fillPlaces rows m)), s5, s6, s7, s8, s9] ∧ anyO ((bags.drop i).map go) = some res) ⟨_, _, _, _, _, _, rfl, hany⟩ ?_ ?_))
      · rintro i bag env1 hi ⟨s3, s5, s6, s7, s8, s9, rfl, hd⟩
        refine ⟨_, [6], wpg_name (by decide), ?_⟩
        refine wps_seq (wps_asgN (evN_lst ea_nil (by decide)) ?_)
        let B := behindM rows rest m bag
        have hB : B.length = rest.length := by show (rest.mapIdx _).length = _; rw [List.length_mapIdx]
        refine wps_seq (wps_for (xs := rest.mapIdx fun i r => (i, r)) (e := fun p => D.tup [.int (p.1 : Int), tI p.2]) (by rw [← enum_rows]; exact ei_enum (ea_cons (ev_var rfl) ea_nil))
          (fun j env => ∃ s3 s5 s8 s9, env = [.fz (rowsD rows), .fz (rowsD rest), .fz (.int ((m + 1 : Nat) : Int)), s3, .fz (natsD (fillPlaces rows m)), s5, .fz (tI bag), .ow none (.lst ((B.take j).map tI)), s8, s9]) ⟨_, _, _, _, rfl⟩ ?_ ?_)
        · rintro j p env1 hj ⟨s3, s5, s8, s9, rfl⟩
          rw [List.getElem?_mapIdx] at hj
          obtain ⟨row, hrow, rfl⟩ := Option.map_eq_some_iff.mp hj
          have hjl : j < rest.length := (List.getElem?_eq_some_iff.mp hrow).1
          have hrm := hr2 (rows.getD j []) (List.mem_of_getElem? (get_lt (by omega)))
          refine ⟨_, [5, 3], wpg_tup (wpgs_name (by decide) (wpgs_name (by decide) wpgs_nil)) rfl, ?_⟩
          refine wps_app (i := 7) rfl (ev_tupL (EvN.ev (evN_lcE (xs := row.zip bag) D.int (fun p => p.1 - at2 rows j m * p.2) (ei_zipE (ea_cons (ev_var rfl) (ea_cons (ev_var rfl) ea_nil))) (by have := hw row (List.mem_of_getElem? hrow); rw [List.length_zip]; omega) fun p hp =>
            ⟨_, wpg_tup (wpgs_name (by decide) (wpgs_name (by decide) wpgs_nil)) rfl, ev_sub (ev_var rfl) (ev_mul (ev_ixI (ev_ixLE (e := tI) (ev_var rfl) (ev_var rfl) (get_lt (x := []) (by omega))) (ev_is (ev_sub (ev_var rfl) ev_int) hsub) hrm.1) (ev_var rfl) (.inl hrm.2))⟩))) ?_ ⟨.fz (tI row), .fz (.int (j : Int)), s8, s9, ?_⟩
          · rw [List.length_map, List.length_take]; omega
          · have e2 : B.take (j + 1) = B.take j ++ [(row.zip bag).map fun p => p.1 - at2 rows j m * p.2] := mapIdx_take_more hrow
            rw [e2, List.map_append]
            rfl
        · rintro env1 ⟨s3, s5, s8, s9, rfl⟩
          rw [List.length_mapIdx, ← hB, List.take_length]
          refine wps_freeze 7 rfl ?_
          rcases anyO_drop hi hd with ⟨g1, g2⟩ | ⟨g1, g2⟩
          · refine wps_if (b := true) (ev_truB (ev_call (ea_cons (EvN.ev (evN_lcE (xs := rows) (e := tI) tI (fun row => row.take m) (ei_list (ev_var rfl)) (by omega) fun row _ =>
              ⟨_, wpg_name (by decide), ev_toI (ev_var rfl) (ev_is (ev_sub (ev_var rfl) ev_int) hsub)⟩)) (ea_cons (ev_var rfl) (ea_cons (ev_is (ev_sub (ev_var rfl) ev_int) hsub) ea_nil))) fun k hk => hS m rfl _ _ ⟨_, _, _, rfl, g1, hk⟩)) (fun _ => wps_ret ev_bl (by rw [g2] at hk; exact hk)) (fun z => nomatch z)
          · refine wps_if (b := false) (ev_truB (ev_call (ea_cons (EvN.ev (evN_lcE (xs := rows) (e := tI) tI (fun row => row.take m) (ei_list (ev_var rfl)) (by omega) fun row _ =>
              ⟨_, wpg_name (by decide), ev_toI (ev_var rfl) (ev_is (ev_sub (ev_var rfl) ev_int) hsub)⟩)) (ea_cons (ev_var rfl) (ea_cons (ev_is (ev_sub (ev_var rfl) ev_int) hsub) ea_nil))) fun k hk => hS m rfl _ _ ⟨_, _, _, rfl, g1, hk⟩)) (fun z => nomatch z) (fun _ => wps_next ⟨_, _, _, _, _, _, rfl, g2⟩)
      · rintro env1 ⟨s3, s5, s6, s7, s8, s9, rfl, hd⟩
        rw [List.drop_length] at hd
        have hres : false = res := Option.some.inj hd
        refine wps_ret ev_bl ?_
        rwa [hres]
theorem ok_can_fill {f : Addr} {fd : FuncData} (F : Fun K "can_fill" "can_fill" s_can_fill f fd) (T : Bl mg) (hmg : mg "can_fill" = some (.ref f)) (hkp : PySem.W.keepIn K (.ref f) = true) (hbi : Binds K fd P_can_fill [])
    (C_under : Cal P w K mg base 1 "under" P_under (spR S_under)) : ∀ n, FnOk P w K mg base CX0 (n + 2) f fd P_can_fill (spR (S_can_fill n)) := by
  intro n
  induction n with
  | zero => exact can_fill_step F T C_under (S' := fun _ _ => False) (Cal.mk' (F.ok sc_can_fill (fun vs H Q E ⟨_, _, _, _, z⟩ => z.elim) (fun cdv A outer s H vs Q E hr ⟨_, _, _, _, z⟩ => z.elim)) hmg hkp hbi) 0 (fun m e => nomatch e)
  | succ n ih => exact can_fill_step F T C_under (Cal.mk' ih hmg hkp hbi) (n + 1) (fun m e ds kk h => by cases e; exact h)
end
end K65

namespace K65
open PySem L2 DL
section
variable {P : Program} {w : World} {K : PySem.W.Frag} {mg : Str → Option Value} {base : Heap}
/-! comes_of -/
abbrev s_comes_of : Stmt := top 15
abbrev N_comes_of : List Str := ["whole", "bags", "known", "many", "wide", "bag", "rest", "row", "full", "own", "a", "b"]
abbrev P_comes_of : List Str := ["whole", "bags", "known"]
theorem sc_comes_of : FnScope N_comes_of P_comes_of (defScope s_comes_of) := ⟨rfl, rfl, rfl, by decide +kernel, rfl, by decide +kernel, by decide +kernel⟩
/- 0:whole 1:bags 2:known 3:many 4:wide 5:bag 6:rest 7:row 8:full 9:own 10:a 11:b -/
def zOk (k : Nat) : Prop := k = 0 ∨ 2 ≤ k
instance (k : Nat) : Decidable (zOk k) := by unfold zOk; infer_instance
def wideC (bags : List (List Int)) (known : Nat) : Int := maxL (bags.map (fun b => (b.length : Int)) ++ [(known : Int)])
def fullM (wide : Nat) (bag : List Int) : List Int := bag ++ List.replicate (wide - bag.length) 0
def ownM (wide known : Nat) (row : List Int) : List Int := row.take known ++ List.replicate (wide - known) 0
def restM (wide known : Nat) (p : List Int × List Int) : List Int := ((fullM wide p.2).zip (ownM wide known p.1)).map fun q => q.1 - q.2
def okC (whole bags : List (List Int)) (known wide : Nat) : Prop := whole ≠ [] ∧ whole.length ≤ 100 ∧ bags.length ≤ 100 ∧ known ≤ (whole.getD 0 []).length ∧ wideC bags known = (wide : Int) ∧ wide ≤ 500 ∧ known ≤ wide ∧ zOk (wide - known) ∧ (∀ bag ∈ bags, bag.length ≤ wide ∧ zOk (wide - bag.length)) ∧ ∀ row ∈ whole, row.length ≤ 500
instance (whole bags : List (List Int)) (known wide : Nat) : Decidable (okC whole bags known wide) := by unfold okC; infer_instance
def allUnder (wide known : Nat) (l : List (List Int × List Int)) : Bool := l.all fun p => isUnder (ownM wide known p.1) (fullM wide p.2)
def comesM (whole bags : List (List Int)) (known : Nat) : Option Bool :=
  let wide := (wideC bags known).toNat
  if okC whole bags known wide then
    if whole.length = bags.length then
      if allUnder wide known (whole.zip bags) then fillsM ((whole.getD 0 []).length - known) (whole.map fun row => row.drop known) ((whole.zip bags).map (restM wide known)) else some false
    else some false
  else none
def S_comes_of (ds : List D) (k : D → Prop) : Prop := ∃ whole bags known res, ds = [tR whole, tR bags, .int ((known : Nat) : Int)] ∧ (whole.getD 0 []).length ≤ known + 10 ∧ comesM whole bags known = some res ∧ k (.bl res)
theorem ok_comes_of {f : Addr} {fd : FuncData} (F : Fun K "comes_of" "comes_of" s_comes_of f fd) (T : Bl mg) (C_is_under : Cal P w K mg base 1 "is_under" P_is_under (spR S_is_under))
    (C_can_fill : Cal P w K mg base 12 "can_fill" P_can_fill (spR fun ds kk => ∃ n, n ≤ 10 ∧ S_can_fill n ds kk)) : FnOk P w K mg base CX0 13 f fd P_comes_of (spR S_comes_of) := by
  refine fn_ok F sc_comes_of (fun ds k ⟨_, _, _, _, e, _⟩ => by rw [e] <;> rfl) (by decide) (fun cdv A outer s H E hr => ?_)
  have hu64 := hu64_of hr
  refine ⟨_, (pss_cons (ps_set (i := 3) sc_comes_of.nd rfl (by first | exact Or.inl rfl | exact Or.inr rfl) (pe_ifExp (DL.k_truth (K := K) rfl (pv 0) (by intro _; rfl)) (pe_op op_sub (pe_callB (id := "len") (DL.k_len (K := K) rfl) (by rfl) T.m_len (by decide +kernel) (pa_cons (pe_ix (DL.k_ixT (K := K) rfl) (pv 0) pe_int (fun _ _ => rfl)) pa_nil)) (pv 2)) pe_int))
      (pss_cons (ps_if (pt_cmpR (DL.k_neD (K := K) rfl hu64) (pe_callB (id := "len") (DL.k_len (K := K) rfl) (by rfl) T.m_len (by decide +kernel) (pa_cons (pv 0) pa_nil)) (pe_callB (id := "len") (DL.k_len (K := K) rfl) (by rfl) T.m_len (by decide +kernel) (pa_cons (pv 1) pa_nil)) (nomark _))
        (pss_one (ps_ret pe_bl))
        pss_nil)
      (pss_cons (ps_set (i := 4) sc_comes_of.nd rfl (by first | exact Or.inl rfl | exact Or.inr rfl) (pe_callB (id := "max") (DL.k_max (K := K) rfl rfl) (by rfl) T.m_max (by decide +kernel) (pa_cons (pe_op op_cat (pe_lc (own := [("bag", 5)]) (g := (gName 5)) (tt := tYes) rfl sc_comes_of.nd (DL.k_tup (K := K) rfl (pv 1)) (blkOk_by (own := [("bag", 5)]) (N := N_comes_of) (sc := defScope s_comes_of) (by decide +kernel)) (fun _ _ _ _ _ => by exact (pg_name (i := 5) sc_comes_of.nd rfl (by first | exact Or.inl rfl | exact Or.inr rfl))) (fun _ _ _ _ _ => by exact pts_nil) (fun _ _ _ _ _ => by exact (pe_callB (id := "len") (DL.k_len (K := K) rfl) (by rfl) T.m_len (by decide +kernel) (pa_cons (pv 5) pa_nil)))) (pe_lst (pa_cons (pv 2) pa_nil))) pa_nil)))
      (pss_cons (ps_set (i := 6) sc_comes_of.nd rfl (by first | exact Or.inl rfl | exact Or.inr rfl) (pe_lst pa_nil))
      (pss_cons (ps_for PassesOwn.never rfl (DL.k_zip (K := K) rfl (by rfl) T.m_zip (pa_cons (pv 0) (pa_cons (pv 1) pa_nil))) (pg_tup rfl (pgs_cons (pg_name (i := 7) sc_comes_of.nd rfl (by first | exact Or.inl rfl | exact Or.inr rfl)) (pgs_cons (pg_name (i := 5) sc_comes_of.nd rfl (by first | exact Or.inl rfl | exact Or.inr rfl)) pgs_nil)))
        (pss_cons (ps_set (i := 8) sc_comes_of.nd rfl (by first | exact Or.inl rfl | exact Or.inr rfl) (pe_op (DL.k_catT (K := K) rfl) (pe_callTy (T := "tuple") (DL.k_tupleOf (K := K) rfl) (by rfl) T.m_tuple (by decide +kernel) (pa_cons (pv 5) pa_nil)) (pe_op (DL.k_repA (K := K) rfl) (pe_tup (pa_cons pe_int pa_nil)) (pe_op op_sub (pv 4) (pe_callB (id := "len") (DL.k_len (K := K) rfl) (by rfl) T.m_len (by decide +kernel) (pa_cons (pv 5) pa_nil))))))
        (pss_cons (ps_set (i := 9) sc_comes_of.nd rfl (by first | exact Or.inl rfl | exact Or.inr rfl) (pe_op (DL.k_catT (K := K) rfl) (pe_slice (DL.k_slT (K := K) rfl) (pv 7) po_none (po_some (pv 2))) (pe_op (DL.k_repA (K := K) rfl) (pe_tup (pa_cons pe_int pa_nil)) (pe_op op_sub (pv 4) (pv 2)))))
        (pss_cons (ps_if (pt_not (DL.k_truth (K := K) rfl (DL.pe_cal C_is_under (hr.mono (by first | decide | omega)) (by rfl) (pa_cons (pv 9) (pa_cons (pv 8) pa_nil))) (by intro _; rfl)))
          (pss_one (ps_ret pe_bl))
          pss_nil)
        (pss_one (ps_expr (pe_bm PySem.F.plainAttrs_list PySem.F.slot_list_append PySem.F.type_list_append mt_append (pv 6) (pa_cons (pe_callTy (T := "tuple") (DL.k_tupleOf (K := K) rfl) (by rfl) T.m_tuple (by decide +kernel) (pa_cons (pe_lc (own := [("a", 10), ("b", 11)]) (g := (gTup K 2 (gCons (gName 10) (gCons (gName 11) gNil)))) (tt := tYes) rfl sc_comes_of.nd (DL.k_zip (K := K) rfl (by rfl) T.m_zip (pa_cons (pv 8) (pa_cons (pv 9) pa_nil))) (blkOk_by (own := [("a", 10), ("b", 11)]) (N := N_comes_of) (sc := defScope s_comes_of) (by decide +kernel)) (fun _ _ _ _ _ => by exact (pg_tup rfl (pgs_cons (pg_name (i := 10) sc_comes_of.nd rfl (by first | exact Or.inl rfl | exact Or.inr rfl)) (pgs_cons (pg_name (i := 11) sc_comes_of.nd rfl (by first | exact Or.inl rfl | exact Or.inr rfl)) pgs_nil)))) (fun _ _ _ _ _ => by exact pts_nil) (fun _ _ _ _ _ => by exact (pe_op op_sub (pv 10) (pv 11)))) pa_nil)) pa_nil))))))))
      (pss_one (ps_ret (DL.pe_cal C_can_fill (hr.mono (by first | decide | omega)) (by rfl) (pa_cons (pe_lc (own := [("row", 7)]) (g := (gName 7)) (tt := tYes) rfl sc_comes_of.nd (DL.k_tup (K := K) rfl (pv 0)) (blkOk_by (own := [("row", 7)]) (N := N_comes_of) (sc := defScope s_comes_of) (by decide +kernel)) (fun _ _ _ _ _ => by exact (pg_name (i := 7) sc_comes_of.nd rfl (by first | exact Or.inl rfl | exact Or.inr rfl))) (fun _ _ _ _ _ => by exact pts_nil) (fun _ _ _ _ _ => by exact (pe_slice (DL.k_slT (K := K) rfl) (pv 7) (po_some (pv 2)) po_none))) (pa_cons (pv 6) (pa_cons (pv 3) pa_nil))))))))))), fun ds k ⟨whole, bags, known, res, e, h10, hm, hk⟩ => ?_⟩
  subst e
  unfold comesM at hm
  dsimp only at hm
  split at hm
  case isFalse => cases hm
  case isTrue hc =>
  let wide := (wideC bags known).toNat
  obtain ⟨h0, hwl, hbl, hkn, hwi, hw5, hkw, hz1, hz2, hrl⟩ := hc
  have hwe : whole.isEmpty = false := by cases whole with
    | nil => exact absurd rfl h0
    | cons a b => rfl
  have hw0 : 0 < whole.length := List.length_pos_iff.mpr h0
  let many := (whole.getD 0 []).length - known
  refine wps_seq (wps_asg (d := .int (many : Int)) (ev_if (ev_truT (e := tI) (ev_var rfl)) (fun _ => ?_) (fun z => ?_)) ?_)
  · exact ev_is (ev_sub (ev_len (ev_ixTE (e := tI) (j := 0) (ev_var rfl) ev_int (get_lt (x := []) hw0)) (len_tI _)) (ev_var rfl)) (congrArg D.int (by show _ = (((whole.getD 0 []).length - known : Nat) : Int); omega))
  · rw [hwe] at z; cases z
  refine wps_seq (wps_if (et_test (ev_neI (ev_len (ev_var rfl) (len_tR whole)) (ev_len (ev_var rfl) (len_tR bags)))) (fun c => ?_) (fun c => ?_))
  · rw [if_neg (fun z => by rw [z] at c; simp at c)] at hm
    have hres := Option.some.inj hm
    refine wps_ret ev_bl ?_
    rwa [hres]
  have hlen : whole.length = bags.length := by
    by_cases q : (whole.length : Int) = bags.length
    · omega
    · rw [decide_eq_false q] at c; cases c
  rw [if_pos hlen] at hm
  refine wps_next (wps_seq (wps_asg (d := .int (wide : Int)) (ev_is (ev_max (ns := bags.map (fun b => (b.length : Int)) ++ [(known : Int)]) (EvN.ev (evN_is (evN_catL (e := D.int) (EvN.ev (evN_lcE (xs := bags) (e := tI) D.int (fun b => (b.length : Int)) (ei_tup (ev_var rfl)) (by omega) fun b _ =>
    ⟨_, wpg_name (by decide), ev_len (ev_var rfl) (len_tI b)⟩)) (EvN.ev (evN_lst (ds := [(known : Int)].map D.int) (ea_cons (ev_var rfl) ea_nil) (Nat.le_of_ble_eq_true rfl))) (by rw [List.length_map]; simp; omega)) rfl)) (by simp)) (congrArg D.int hwi)) ?_))
  refine wps_seq (wps_asgN (evN_lst ea_nil (by decide)) ?_)
  let zs := whole.zip bags
  have hzl : zs.length ≤ 100 := by show (whole.zip bags).length ≤ 100; rw [List.length_zip]; omega
  by_cases hall : allUnder wide known zs = true
  · -- all fits
    rw [if_pos hall] at hm
    refine wps_seq (wps_for (xs := zs) (e := fun p => D.tup [tI p.1, tI p.2]) (ei_zipE (e := tI) (f := tI) (ea_cons (ev_var rfl) (ea_cons (ev_var rfl) ea_nil)))
      (fun i env => ∃ s5 s7 s8 s9 s10 s11, env = [.fz (tR whole), .fz (tR bags), .fz (.int (known : Int)), .fz (.int (many : Int)), .fz (.int (wide : Int)), s5, .ow none (.lst (((zs.take i).map (restM wide known)).map tI)), s7, s8, s9, s10, s11]) ⟨_, _, _, _, _, _, rfl⟩ ?_ ?_)
    · rintro i ⟨row, bag⟩ env1 hi ⟨s5, s7, s8, s9, s10, s11, rfl⟩
      have hmem := List.mem_of_getElem? hi
      have hbm := hz2 bag (List.of_mem_zip hmem).2
      have hrm := hrl row (List.of_mem_zip hmem).1
      have hu : isUnder (ownM wide known row) (fullM wide bag) = true := by
        have := List.all_eq_true.mp hall _ hmem
        exact this
      refine ⟨_, [7, 5], wpg_tup (wpgs_name (by decide) (wpgs_name (by decide) wpgs_nil)) rfl, ?_⟩
      refine wps_seq (wps_asg (d := tI (fullM wide bag)) (ev_catI (ev_tupT (ev_var rfl)) (ev_zeros (z := 0) (k := wide - bag.length) ev_int (ev_is (ev_sub (ev_var rfl) (ev_len (ev_var rfl) (len_tI bag))) (congrArg D.int (by have := hbm.1; show (wide : Int) - bag.length = _; omega))) hbm.2 (by show wide - _ ≤ _; omega)) (by have := hbm.1; simp; show _ + (wide - _) ≤ _; omega)) ?_)
      refine wps_seq (wps_asg (d := tI (ownM wide known row)) (ev_catI (ev_toI (ev_var rfl) (ev_var rfl)) (ev_zeros (z := 0) (k := wide - known) ev_int (ev_is (ev_sub (ev_var rfl) (ev_var rfl)) (congrArg D.int (by show (wide : Int) - known = _; omega))) hz1 (by show wide - _ ≤ _; omega)) (by simp; show _ + (wide - _) ≤ _; omega)) ?_)
      refine wps_seq (wps_if (b := !true) (et_not (ev_truB (ev_call (ea_cons (ev_var rfl) (ea_cons (ev_var rfl) ea_nil)) fun k hk => ⟨_, _, rfl, by
        unfold ownM
        simp
        show _ + (wide - _) ≤ _
        omega, by rw [hu]; exact hk⟩))) (fun z => nomatch z) (fun _ => wps_next ?_))
      refine wps_app (i := 6) rfl (ev_tupL (EvN.ev (evN_lcE (xs := (fullM wide bag).zip (ownM wide known row)) D.int (fun q => q.1 - q.2) (ei_zipE (ea_cons (ev_var rfl) (ea_cons (ev_var rfl) ea_nil))) (by
        rw [List.length_zip]
        unfold ownM
        simp
        have : known + (wide - known) = wide := by show known + (wide - known) = wide; omega
        omega) fun q _ =>
        ⟨_, wpg_tup (wpgs_name (by decide) (wpgs_name (by decide) wpgs_nil)) rfl, ev_sub (ev_var rfl) (ev_var rfl)⟩))) ?_ ⟨.fz (tI bag), .fz (tI row), .fz (tI (fullM wide bag)), .fz (tI (ownM wide known row)), s10, s11, ?_⟩
      · rw [List.length_map, List.length_map, List.length_take]; omega
      · rw [take_more hi, List.map_append, List.map_append]
        rfl
    · rintro env1 ⟨s5, s7, s8, s9, s10, s11, rfl⟩
      rw [List.take_length]
      refine wps_freeze 6 rfl (wps_ret (ev_call (ea_cons (EvN.ev (evN_lcE (xs := whole) (e := tI) tI (fun row => row.drop known) (ei_tup (ev_var rfl)) (by omega) fun row _ =>
        ⟨_, wpg_name (by decide), ev_fromI (ev_var rfl) (ev_var rfl)⟩)) (ea_cons (ev_var rfl) (ea_cons (ev_var rfl) ea_nil))) fun k hk => ⟨many, by show (whole.getD 0 []).length - known ≤ 10; omega, _, _, _, rfl, hm, hk⟩) hk)
  · rw [if_neg hall] at hm
    have hres := Option.some.inj hm
    refine wps_seq (wps_for (xs := zs) (e := fun p => D.tup [tI p.1, tI p.2]) (ei_zipE (e := tI) (f := tI) (ea_cons (ev_var rfl) (ea_cons (ev_var rfl) ea_nil)))
      (fun i env => ∃ s5 s7 s8 s9 s10 s11, env = [.fz (tR whole), .fz (tR bags), .fz (.int (known : Int)), .fz (.int (many : Int)), .fz (.int (wide : Int)), s5, .ow none (.lst (((zs.take i).map (restM wide known)).map tI)), s7, s8, s9, s10, s11] ∧ allUnder wide known (zs.drop i) = false) ⟨_, _, _, _, _, _, rfl, by simpa using hall⟩ ?_ ?_)
    · rintro i ⟨row, bag⟩ env1 hi ⟨s5, s7, s8, s9, s10, s11, rfl, hd⟩
      have hmem := List.mem_of_getElem? hi
      have hbm := hz2 bag (List.of_mem_zip hmem).2
      have hrm := hrl row (List.of_mem_zip hmem).1
      have hd' : (isUnder (ownM wide known row) (fullM wide bag) && allUnder wide known (zs.drop (i + 1))) = false := by
        obtain ⟨hi', e1⟩ := List.getElem?_eq_some_iff.mp hi
        rw [List.drop_eq_getElem_cons hi', e1] at hd
        exact hd
      refine ⟨_, [7, 5], wpg_tup (wpgs_name (by decide) (wpgs_name (by decide) wpgs_nil)) rfl, ?_⟩
      refine wps_seq (wps_asg (d := tI (fullM wide bag)) (ev_catI (ev_tupT (ev_var rfl)) (ev_zeros (z := 0) (k := wide - bag.length) ev_int (ev_is (ev_sub (ev_var rfl) (ev_len (ev_var rfl) (len_tI bag))) (congrArg D.int (by have := hbm.1; show (wide : Int) - bag.length = _; omega))) hbm.2 (by show wide - _ ≤ _; omega)) (by have := hbm.1; simp; show _ + (wide - _) ≤ _; omega)) ?_)
      refine wps_seq (wps_asg (d := tI (ownM wide known row)) (ev_catI (ev_toI (ev_var rfl) (ev_var rfl)) (ev_zeros (z := 0) (k := wide - known) ev_int (ev_is (ev_sub (ev_var rfl) (ev_var rfl)) (congrArg D.int (by show (wide : Int) - known = _; omega))) hz1 (by show wide - _ ≤ _; omega)) (by simp; show _ + (wide - _) ≤ _; omega)) ?_)
      refine wps_seq (wps_if (b := !(isUnder (ownM wide known row) (fullM wide bag))) (et_not (ev_truB (ev_call (ea_cons (ev_var rfl) (ea_cons (ev_var rfl) ea_nil)) fun k hk => ⟨_, _, rfl, by
        unfold ownM
        simp
        show _ + (wide - _) ≤ _
        omega, hk⟩))) (fun z => wps_ret ev_bl (by rw [← hres] at hk; exact hk)) (fun z => wps_next ?_))
      have hu : isUnder (ownM wide known row) (fullM wide bag) = true := by simpa using z
      rw [hu, Bool.true_and] at hd'
      refine wps_app (i := 6) rfl (ev_tupL (EvN.ev (evN_lcE (xs := (fullM wide bag).zip (ownM wide known row)) D.int (fun q => q.1 - q.2) (ei_zipE (ea_cons (ev_var rfl) (ea_cons (ev_var rfl) ea_nil))) (by
        rw [List.length_zip]
        unfold ownM
        simp
        have : known + (wide - known) = wide := by show known + (wide - known) = wide; omega
        omega) fun q _ =>
        ⟨_, wpg_tup (wpgs_name (by decide) (wpgs_name (by decide) wpgs_nil)) rfl, ev_sub (ev_var rfl) (ev_var rfl)⟩))) ?_ ⟨.fz (tI bag), .fz (tI row), .fz (tI (fullM wide bag)), .fz (tI (ownM wide known row)), s10, s11, ?_, hd'⟩
      · rw [List.length_map, List.length_map, List.length_take]; omega
      · rw [take_more hi, List.map_append, List.map_append]
        rfl
    · rintro env1 ⟨s5, s7, s8, s9, s10, s11, rfl, hd⟩
      rw [List.drop_length] at hd
      cases hd
end
end K65

namespace K65
open PySem L2 DL
section
variable {P : Program} {w : World} {K : PySem.W.Frag} {mg : Str → Option Value} {base : Heap}
/-! solutions: the mirror -/
abbrev Tk := Int ⊕ List Nat
def PF {α : Type} (tk : α → List Tk) : Prop := ∀ a b u v, tk a ++ u = tk b ++ v → a = b ∧ u = v
theorem pf_int : PF (fun i : Int => [(Sum.inl i : Tk)]) := fun a b u v h => by
  simp only [List.cons_append, List.nil_append, List.cons.injEq, Sum.inl.injEq] at h
  exact h
theorem pf_list {α : Type} {tk : α → List Tk} (p : PF tk) : PF (fun xs : List α => (xs.map fun x => (Sum.inl 1 : Tk) :: tk x).flatten ++ [Sum.inl 0]) := by
  intro a
  induction a with
  | nil =>
    intro b u v h
    cases b with
    | nil => simpa using h
    | cons y b => simp at h
  | cons x a ih =>
    intro b u v h
    cases b with
    | nil => simp at h
    | cons y b =>
      simp only [List.map_cons, List.flatten_cons, List.cons_append, List.append_assoc, List.cons.injEq, true_and] at h
      obtain ⟨rfl, h2⟩ := p _ _ _ _ h
      obtain ⟨rfl, h3⟩ := ih b u v (by simpa using h2)
      exact ⟨rfl, h3⟩
theorem toks_list {α : Type} {e : α → D} (xs : List α) : PySem.W.keyToks (D.tup (xs.map e)).py = (xs.map fun x => (Sum.inl 1 : Tk) :: PySem.W.keyToks (e x).py).flatten ++ [Sum.inl 0] := by
  show PySem.W.keyToks (.tuple (D.pyA (xs.map e))) = _
  rw [PySem.W.keyToks]
  induction xs with
  | nil => rfl
  | cons x xs ih =>
    show PySem.W.keyToksAll ((e x).py :: D.pyA (xs.map e)) = _
    rw [PySem.W.keyToksAll, ih, List.map_cons, List.flatten_cons]
    simp
def kPair (p : Nat × List (List Int)) : D := .tup [.int (p.1 : Int), tR p.2]
theorem pf_tI : PF (fun r : List Int => PySem.W.keyToks (tI r).py) := by
  have : (fun r : List Int => PySem.W.keyToks (tI r).py) = fun xs : List Int => (xs.map fun x => (Sum.inl 1 : Tk) :: [(Sum.inl x : Tk)]).flatten ++ [Sum.inl 0] := funext fun r => toks_list (e := D.int) r
  rw [this]
  exact pf_list pf_int
theorem pf_tR : PF (fun r : List (List Int) => PySem.W.keyToks (tR r).py) := by
  have : (fun r : List (List Int) => PySem.W.keyToks (tR r).py) = fun xs : List (List Int) => (xs.map fun x => (Sum.inl 1 : Tk) :: PySem.W.keyToks (tI x).py).flatten ++ [Sum.inl 0] := funext fun r => toks_list (e := tI) r
  rw [this]
  exact pf_list pf_tI
theorem toks_pair (p : Nat × List (List Int)) : PySem.W.keyToks (kPair p).py = (Sum.inl 1 : Tk) :: (Sum.inl (p.1 : Int) : Tk) :: (Sum.inl 1 : Tk) :: (PySem.W.keyToks (tR p.2).py ++ [Sum.inl 0]) := by
  have := toks_list (e := id) [D.int (p.1 : Int), tR p.2]
  rw [List.map_id] at this
  unfold kPair
  rw [this]
  show _ :: (_ ++ ((Sum.inl 1 : Tk) :: PySem.W.keyToks (tR p.2).py ++ [])) ++ _ = _
  rw [List.append_nil]
  rfl
theorem toks_pair_inj (a b : Nat × List (List Int)) (h : PySem.W.keyToks (kPair a).py = PySem.W.keyToks (kPair b).py) : a = b := by
  rw [toks_pair, toks_pair] at h
  simp only [List.cons.injEq, Sum.inl.injEq, true_and] at h
  have h2 := (pf_tR a.2 b.2 _ _ h.2).1
  exact Prod.ext (by have := h.1; omega) h2
def lePair (a b : Nat × List (List Int)) : Bool := !PySem.W.dataLt (kPair b).py (kPair a).py
theorem lePair_total : PySem.W.TotalLe lePair := by
  have h := PySem.W.sortLe_total (PyProof.Rows.listOrd PyProof.Rows.itemOrd) false (fun a : Nat × List (List Int) => PySem.W.keyToks (kPair a).py)
  exact h
theorem lePair_anti (a b : Nat × List (List Int)) (h1 : lePair a b = true) (h2 : lePair b a = true) : a = b := by
  unfold lePair PySem.W.dataLt at h1 h2
  rw [Bool.not_eq_true'] at h1 h2
  have e := (PyProof.Rows.listOrd PyProof.Rows.itemOrd).total (PySem.W.keyToks (kPair b).py) (PySem.W.keyToks (kPair a).py) h1 h2
  exact (toks_pair_inj _ _ e).symm
theorem sortD_pairs (rs : List (Nat × List (List Int))) : sortD (rs.map kPair) = (isort lePair rs).map kPair := by
  rw [← isort_eq lePair_total lePair_anti]
  unfold sortD
  exact (List.map_mergeSort (f := kPair) (l := rs) (r := lePair) fun _ _ _ _ => rfl).symm
theorem alike_rows : ∀ a b : List (List Int), PySem.W.alikeAll (D.pyA (a.map tI)) (D.pyA (b.map tI)) = true
  | [], _ => by simp [D.pyA, PySem.W.alikeAll]
  | x :: a, [] => by simp [D.pyA, PySem.W.alikeAll]
  | x :: a, y :: b => by
    show PySem.W.alikeAll ((tI x).py :: D.pyA (a.map tI)) ((tI y).py :: D.pyA (b.map tI)) = true
    rw [PySem.W.alikeAll, alike_rows a b, alike_tI]
    rfl
theorem alike_pair (a b : Nat × List (List Int)) : PySem.W.alike (kPair a).py (kPair b).py = true := by
  show PySem.W.alike (.tuple [.int a.1, (tR a.2).py]) (.tuple [.int b.1, (tR b.2).py]) = true
  have h : PySem.W.alike (tR a.2).py (tR b.2).py = true := by
    show PySem.W.alike (.tuple (D.pyA (a.2.map tI))) (.tuple (D.pyA (b.2.map tI))) = true
    rw [PySem.W.alike]
    exact alike_rows _ _
  rw [PySem.W.alike, PySem.W.alikeAll, PySem.W.alikeAll, h]
  rfl
theorem pairs_alike (rs : List (Nat × List (List Int))) : PySem.W.AllAlike ((rs.map kPair).map D.py) := by
  intro d hd d' hd'
  rw [List.map_map] at hd hd'
  obtain ⟨a, _, rfl⟩ := List.mem_map.mp hd
  obtain ⟨b, _, rfl⟩ := List.mem_map.mp hd'
  exact alike_pair a b
theorem pairs_sortable (rs : List (Nat × List (List Int))) : PySem.W.Sortable ((rs.map kPair).map D.py) := by
  refine .inl fun d hd => ?_
  rw [List.map_map] at hd
  obtain ⟨a, _, rfl⟩ := List.mem_map.mp hd
  exact ⟨_, _, rfl⟩
def nkRow (r : List Int) : NestedKey := .tup (r.map .num)
def nkPair (p : Nat × List (List Int)) : List NestedKey := [.num (p.1 : Int), .tup (p.2.map nkRow)]
theorem nd_row (r : List Int) : nD (nkRow r) = tI r := by
  unfold nkRow
  rw [nD, nDs_map, List.map_map]
  refine congrArg D.tup (List.map_congr_left fun i _ => ?_)
  show nD (.num i) = _
  rw [nD]
theorem nd_pair (p : Nat × List (List Int)) : nD (.tup (nkPair p)) = kPair p := by
  unfold nkPair kPair
  rw [nD, nDs, nDs, nDs, nD, nD, nDs_map, List.map_map]
  have : (nD ∘ nkRow) = tI := funext nd_row
  rw [this] <;> rfl
theorem nkRow_inj {a b : List Int} (h : nkRow a = nkRow b) : a = b := by
  unfold nkRow at h
  injection h with h
  induction a generalizing b with
  | nil => cases b with
    | nil => rfl
    | cons y b => simp at h
  | cons x a ih => cases b with
    | nil => simp at h
    | cons y b =>
      simp only [List.map_cons, List.cons.injEq, NestedKey.num.injEq] at h
      rw [h.1, ih h.2]
theorem nkPair_inj {a b : Nat × List (List Int)} (h : NestedKey.tup (nkPair a) = NestedKey.tup (nkPair b)) : a = b := by
  unfold nkPair at h
  simp only [NestedKey.tup.injEq, List.cons.injEq, NestedKey.num.injEq, and_true] at h
  have : ∀ (x y : List (List Int)), x.map nkRow = y.map nkRow → x = y := by
    intro x
    induction x with
    | nil => intro y e; cases y with
      | nil => rfl
      | cons _ _ => simp at e
    | cons u x ih => intro y e; cases y with
      | nil => simp at e
      | cons v y =>
        simp only [List.map_cons, List.cons.injEq] at e
        rw [nkRow_inj e.1, ih y e.2]
  exact Prod.ext (by have := h.1; omega) (this _ _ h.2)
def keysOf (fs : List (Nat × List (List Int))) : List NestedKey := fs.map fun p => .tup (nkPair p)
def insP (fs : List (Nat × List (List Int))) (p : Nat × List (List Int)) : List (Nat × List (List Int)) := if fs.any (fun x => decide (x = p)) then fs else fs ++ [p]
theorem insN_keys (fs : List (Nat × List (List Int))) (p : Nat × List (List Int)) : insN (keysOf fs) (.tup (nkPair p)) = keysOf (insP fs p) := by
  unfold insN insP
  have : ((keysOf fs).any fun x => decide (x = NestedKey.tup (nkPair p))) = fs.any fun x => decide (x = p) := by
    unfold keysOf
    rw [List.any_map]
    congr 1
    funext x
    exact decide_eq_decide.mpr ⟨fun e => nkPair_inj e, fun e => by rw [e]⟩
  rw [this]
  split
  · rfl
  · unfold keysOf
    rw [List.map_append] <;> rfl
theorem nds_keys (fs : List (Nat × List (List Int))) : nDs (keysOf fs) = fs.map kPair := by
  rw [nDs_map]
  unfold keysOf
  rw [List.map_map]
  exact List.map_congr_left fun p _ => nd_pair p
theorem depth_num : ∀ r : List Int, NestedKey.depthAll (r.map .num) = 0
  | [] => by rw [List.map_nil, NestedKey.depthAll]
  | i :: r => by rw [List.map_cons, NestedKey.depthAll, depth_num r, NestedKey.depth] <;> rfl
theorem depth_rows : ∀ rs : List (List Int), NestedKey.depthAll (rs.map nkRow) ≤ 1
  | [] => by rw [List.map_nil, NestedKey.depthAll]; exact Nat.zero_le _
  | r :: rs => by
    rw [List.map_cons, NestedKey.depthAll]
    unfold nkRow
    rw [NestedKey.depth, depth_num]
    have := depth_rows rs
    unfold nkRow at this
    omega
theorem depth_pair (p : Nat × List (List Int)) : NestedKey.depth (.tup (nkPair p)) ≤ 8 := by
  unfold nkPair
  rw [NestedKey.depth, NestedKey.depthAll, NestedKey.depthAll, NestedKey.depthAll, NestedKey.depth, NestedKey.depth]
  have := depth_rows p.2
  omega
def gapsM (l1 r1 : List Int) (many : Nat) : List Int := (List.range many).map fun a => ownAt r1 a - ownAt l1 a
def sharesM (l0 r0 : List Int) : List Int → List (List (List Int)) → Option (List (List (List Int)))
  | [], sh => some sh
  | g :: gs, sh => (sumsM g l0 r0).bind fun rows => if sh.length ≤ 100 ∧ rows.length ≤ 100 ∧ (∀ s ∈ sh, s.length ≤ 10) then sharesM l0 r0 gs ((sh.map fun s => rows.map fun r => s ++ [r]).flatten) else none
def colsM (wide : Nat) (every : List (List Int)) : List (List Int) := if every.isEmpty then [] else (List.range wide).map fun i => every.map fun r => r.getD i 0
def wholeM (wide : Nat) (every : List (List Int)) : List (List Int) := if (colsM wide every).length = wide then colsM wide every else List.replicate wide []
def allAny (ws : List (List Int)) : Bool := (ws.map fun r => r.any (· != 0)).all id
def putP (wide : Nat) (share : List (List Int)) (fs : List (Nat × List (List Int))) (rows : List (List Int)) : List (Nat × List (List Int)) :=
  if allAny (wholeM wide (share ++ rows)) then insP fs (rows.length, wholeM wide (share ++ rows)) else fs
def foundM (wide : Nat) (sets shares : List (List (List Int))) : List (Nat × List (List Int)) := shares.foldl (fun fs share => sets.foldl (putP wide share) fs) []
def okS (wide : Nat) (shares sets : List (List (List Int))) (n : Nat) : Prop := shares.length * 2 ^ n ≤ 4096 ∧ n ≤ 10 ∧ wide ≤ 100 ∧ (∀ s ∈ shares, ∀ t ∈ sets, s.length + t.length ≤ 3 ∧ ∀ r ∈ s ++ t, r.length = wide)
instance (wide : Nat) (shares sets : List (List (List Int))) (n : Nat) : Decidable (okS wide shares sets n) := by unfold okS; infer_instance
def manyM (l1 r1 : List Int) : Nat := if l1.length < r1.length then r1.length else l1.length
def solM (l0 l1 r0 r1 : List Int) : Option (List (List (List Int))) :=
  if manyM l1 r1 ≤ 100 then (sharesM l0 r0 (gapsM l1 r1 (manyM l1 r1)) [[]]).bind fun shares => (leastM l0 r0).bind fun basis =>
    if okS (l0.length + r0.length) shares (powM basis) basis.length then some ((isort lePair (foundM (l0.length + r0.length) (powM basis) shares)).map (·.2)) else none
  else none
end
end K65

namespace K65
open PySem L2 DL
section
variable {P : Program} {w : World} {K : PySem.W.Frag} {mg : Str → Option Value} {base : Heap}
abbrev s_solutions : Stmt := top 11
abbrev N_solutions : List Str := ["left", "right", "many", "gaps", "at", "one", "two", "shares", "gap", "share", "row", "basis", "found", "rows", "every", "whole", "column", "wide", "_"]
abbrev P_solutions : List Str := ["left", "right"]
theorem sc_solutions : FnScope N_solutions P_solutions (defScope s_solutions) := ⟨rfl, rfl, rfl, by decide +kernel, rfl, by decide +kernel, by decide +kernel⟩
/- 0:left 1:right 2:many 3:gaps 4:at 5:one 6:two 7:shares 8:gap 9:share 10:row 11:basis 12:found 13:rows 14:every 15:whole 16:column 17:wide 18:_ -/
theorem pl_kPair (p : Nat × List (List Int)) : (kPair p).pl 3 = true := by
  unfold kPair
  simp [D.pl, D.plA, pl_tR]
theorem insP_len (fs : List (Nat × List (List Int))) (p : Nat × List (List Int)) : (insP fs p).length ≤ fs.length + 1 := by
  unfold insP
  split
  · exact Nat.le_succ _
  · rw [List.length_append]; exact Nat.le_refl _
theorem putP_len (wide : Nat) (share : List (List Int)) (fs : List (Nat × List (List Int))) (rows : List (List Int)) : (putP wide share fs rows).length ≤ fs.length + 1 := by
  unfold putP
  split
  · exact insP_len _ _
  · exact Nat.le_succ _
theorem putP_fold (wide : Nat) (share : List (List Int)) : ∀ (sets : List (List (List Int))) (fs : List (Nat × List (List Int))), (sets.foldl (putP wide share) fs).length ≤ fs.length + sets.length
  | [], fs => Nat.le_refl _
  | t :: sets, fs => by
    have h1 := putP_len wide share fs t
    have h2 := putP_fold wide share sets (putP wide share fs t)
    rw [List.foldl_cons, List.length_cons]
    omega
theorem found_fold (wide : Nat) (sets : List (List (List Int))) : ∀ (shares : List (List (List Int))) (fs : List (Nat × List (List Int))), (shares.foldl (fun fs share => sets.foldl (putP wide share) fs) fs).length ≤ fs.length + shares.length * sets.length
  | [], fs => by simp
  | s :: shares, fs => by
    have h1 := putP_fold wide s sets fs
    have h2 := found_fold wide sets shares (sets.foldl (putP wide s) fs)
    rw [List.foldl_cons, List.length_cons, Nat.add_mul, Nat.one_mul]
    omega
def S_solutions (ds : List D) (k : D → Prop) : Prop := ∃ l0 l1 r0 r1 res, ds = [tR [l0, l1], tR [r0, r1]] ∧ FacOk l0 r0 ∧ FacOk r0 l0 ∧ solM l0 l1 r0 r1 = some res ∧ k (setsD res)
theorem ok_solutions {f : Addr} {fd : FuncData} (F : Fun K "solutions" "solutions" s_solutions f fd) (T : Bl mg) {tS : Tok} (c_MOST_SETS : mg "MOST_SETS" = some (.int 4096 tS))
    (C_sums_to : Cal P w K mg base 4 "sums_to" P_sums_to (spR S_sums_to)) (C_least_rows : Cal P w K mg base 2 "least_rows" P_least_rows (spR S_least_rows)) (C_subsets : Cal P w K mg base 1 "subsets" P_subsets (spR S_subsets)) : FnOk P w K mg base CX0 5 f fd P_solutions (spR S_solutions) := by
  refine fn_ok F sc_solutions (fun ds k ⟨_, _, _, _, _, e, _⟩ => by rw [e] <;> rfl) (by decide) (fun cdv A outer s H E hr => ?_)
  have hu64 := hu64_of hr
  refine ⟨_, (pss_cons (ps_set (i := 2) sc_solutions.nd rfl (by first | exact Or.inl rfl | exact Or.inr rfl) (pe_callB (id := "max") (call_max2 rfl) (by rfl) T.m_max (by decide +kernel) (pa_cons (pe_callB (id := "len") (DL.k_len (K := K) rfl) (by rfl) T.m_len (by decide +kernel) (pa_cons (pe_ix (DL.k_ixT (K := K) rfl) (pv 0) pe_int (fun _ _ => rfl)) pa_nil)) (pa_cons (pe_callB (id := "len") (DL.k_len (K := K) rfl) (by rfl) T.m_len (by decide +kernel) (pa_cons (pe_ix (DL.k_ixT (K := K) rfl) (pv 1) pe_int (fun _ _ => rfl)) pa_nil)) pa_nil))))
      (pss_cons (ps_set (i := 3) sc_solutions.nd rfl (by first | exact Or.inl rfl | exact Or.inr rfl) (pe_lst pa_nil))
      (pss_cons (ps_for PassesOwn.never rfl (pi_range1 (by rfl) T.m_range (pa_cons (pv 2) pa_nil)) (pg_name (i := 4) sc_solutions.nd rfl (by first | exact Or.inl rfl | exact Or.inr rfl))
        (pss_cons (ps_set (i := 5) sc_solutions.nd rfl (by first | exact Or.inl rfl | exact Or.inr rfl) (pe_ifExp (pt_cmpR op_lt (pv 4) (pe_callB (id := "len") (DL.k_len (K := K) rfl) (by rfl) T.m_len (by decide +kernel) (pa_cons (pe_ix (DL.k_ixT (K := K) rfl) (pv 0) pe_int (fun _ _ => rfl)) pa_nil)) (nomark _)) (pe_ix (DL.k_ixT (K := K) rfl) (pe_ix (DL.k_ixT (K := K) rfl) (pv 0) pe_int (fun _ _ => rfl)) (pv 4) (fun _ _ => rfl)) pe_int))
        (pss_cons (ps_set (i := 6) sc_solutions.nd rfl (by first | exact Or.inl rfl | exact Or.inr rfl) (pe_ifExp (pt_cmpR op_lt (pv 4) (pe_callB (id := "len") (DL.k_len (K := K) rfl) (by rfl) T.m_len (by decide +kernel) (pa_cons (pe_ix (DL.k_ixT (K := K) rfl) (pv 1) pe_int (fun _ _ => rfl)) pa_nil)) (nomark _)) (pe_ix (DL.k_ixT (K := K) rfl) (pe_ix (DL.k_ixT (K := K) rfl) (pv 1) pe_int (fun _ _ => rfl)) (pv 4) (fun _ _ => rfl)) pe_int))
        (pss_one (ps_expr (pe_bm PySem.F.plainAttrs_list PySem.F.slot_list_append PySem.F.type_list_append mt_append (pv 3) (pa_cons (pe_op op_sub (pv 6) (pv 5)) pa_nil)))))))
      (pss_cons (ps_set (i := 7) sc_solutions.nd rfl (by first | exact Or.inl rfl | exact Or.inr rfl) (pe_lst (pa_cons (pe_tup pa_nil) pa_nil)))
      (pss_cons (ps_for PassesOwn.never rfl (DL.k_list (K := K) rfl (pv 3)) (pg_name (i := 8) sc_solutions.nd rfl (by first | exact Or.inl rfl | exact Or.inr rfl))
        (pss_one (ps_setLc2 (i := 7) (own := [("share", 9), ("row", 10)]) (vs1 := [10]) (g := (gName 9)) (tt := tYes) (g1 := (gName 10)) (tt1 := tYes) rfl sc_solutions.nd rfl rfl (sw_true rfl rfl rfl (by decide +kernel)) (DL.k_list (K := K) rfl (pv 7)) (blkOk_by (own := [("share", 9), ("row", 10)]) (N := N_solutions) (sc := defScope s_solutions) (by decide +kernel)) (by decide) (fun _ _ _ _ _ => by exact (pg_name (i := 9) sc_solutions.nd rfl (by first | exact Or.inl rfl | exact Or.inr rfl))) (fun _ _ _ _ _ => by exact pts_nil) (fun _ _ _ _ _ => by exact (DL.k_list (K := K) rfl (DL.pe_cal C_sums_to (hr.mono (by first | decide | omega)) (by rfl) (pa_cons (pv 8) (pa_cons (pe_ix (DL.k_ixT (K := K) rfl) (pv 0) pe_int (fun _ _ => rfl)) (pa_cons (pe_ix (DL.k_ixT (K := K) rfl) (pv 1) pe_int (fun _ _ => rfl)) pa_nil)))))) (fun _ _ _ _ _ => by exact (pg_name (i := 10) sc_solutions.nd rfl (by first | exact Or.inl rfl | exact Or.inr rfl))) (fun _ _ _ _ _ => by exact pts_nil) (fun _ _ _ _ _ => by exact (pe_op (DL.k_catT (K := K) rfl) (pv 9) (pe_tup (pa_cons (pv 10) pa_nil)))))))
      (pss_cons (ps_set (i := 11) sc_solutions.nd rfl (by first | exact Or.inl rfl | exact Or.inr rfl) (DL.pe_cal C_least_rows (hr.mono (by first | decide | omega)) (by rfl) (pa_cons (pe_ix (DL.k_ixT (K := K) rfl) (pv 0) pe_int (fun _ _ => rfl)) (pa_cons (pe_ix (DL.k_ixT (K := K) rfl) (pv 1) pe_int (fun _ _ => rfl)) pa_nil))))
      (pss_cons (ps_if (pt_cmpR op_gt (pe_op op_mul (pe_callB (id := "len") (DL.k_len (K := K) rfl) (by rfl) T.m_len (by decide +kernel) (pa_cons (pv 7) pa_nil)) (pe_op op_shl pe_int (pe_callB (id := "len") (DL.k_len (K := K) rfl) (by rfl) T.m_len (by decide +kernel) (pa_cons (pv 11) pa_nil)))) (pe_glob (v := .int 4096) rfl c_MOST_SETS ⟨_, rfl⟩) (nomark _))
        (pss_one ps_never)
        pss_nil)
      (pss_cons (ps_set (i := 12) sc_solutions.nd rfl (by first | exact Or.inl rfl | exact Or.inr rfl) (DL.pe_dnewN rfl))
      (pss_cons (ps_for PassesOwn.never rfl (DL.k_list (K := K) rfl (pv 7)) (pg_name (i := 9) sc_solutions.nd rfl (by first | exact Or.inl rfl | exact Or.inr rfl))
        (pss_one (ps_for PassesOwn.never rfl (DL.k_list (K := K) rfl (DL.pe_cal C_subsets (hr.mono (by first | decide | omega)) (by rfl) (pa_cons (pv 11) pa_nil))) (pg_name (i := 13) sc_solutions.nd rfl (by first | exact Or.inl rfl | exact Or.inr rfl))
          (pss_cons (ps_set (i := 14) sc_solutions.nd rfl (by first | exact Or.inl rfl | exact Or.inr rfl) (pe_op (DL.k_catT (K := K) rfl) (pv 9) (pv 13)))
          (pss_cons (ps_set (i := 15) sc_solutions.nd rfl (by first | exact Or.inl rfl | exact Or.inr rfl) (pe_ifExp (DL.k_truth (K := K) rfl (pv 14) (by intro _; rfl)) (pe_callTy (T := "tuple") (DL.k_tupleOf (K := K) rfl) (by rfl) T.m_tuple (by decide +kernel) (pa_cons (pe_lc (own := [("column", 16)]) (g := (gName 16)) (tt := tYes) rfl sc_solutions.nd (DL.k_zipS (K := K) rfl (by rfl) T.m_zip (pv 14)) (blkOk_by (own := [("column", 16)]) (N := N_solutions) (sc := defScope s_solutions) (by decide +kernel)) (fun _ _ _ _ _ => by exact (pg_name (i := 16) sc_solutions.nd rfl (by first | exact Or.inl rfl | exact Or.inr rfl))) (fun _ _ _ _ _ => by exact pts_nil) (fun _ _ _ _ _ => by exact (pe_callTy (T := "tuple") (DL.k_tupleOf (K := K) rfl) (by rfl) T.m_tuple (by decide +kernel) (pa_cons (pv 16) pa_nil)))) pa_nil)) (pe_tup pa_nil)))
          (pss_cons (ps_set (i := 17) sc_solutions.nd rfl (by first | exact Or.inl rfl | exact Or.inr rfl) (pe_op op_add (pe_callB (id := "len") (DL.k_len (K := K) rfl) (by rfl) T.m_len (by decide +kernel) (pa_cons (pe_ix (DL.k_ixT (K := K) rfl) (pv 0) pe_int (fun _ _ => rfl)) pa_nil)) (pe_callB (id := "len") (DL.k_len (K := K) rfl) (by rfl) T.m_len (by decide +kernel) (pa_cons (pe_ix (DL.k_ixT (K := K) rfl) (pv 1) pe_int (fun _ _ => rfl)) pa_nil))))
          (pss_cons (ps_set (i := 15) sc_solutions.nd rfl (by first | exact Or.inl rfl | exact Or.inr rfl) (pe_ifExp (pt_cmpR (DL.k_eqD (K := K) rfl hu64) (pe_callB (id := "len") (DL.k_len (K := K) rfl) (by rfl) T.m_len (by decide +kernel) (pa_cons (pv 15) pa_nil)) (pv 17) (nomark _)) (pv 15) (pe_op (DL.k_repA (K := K) rfl) (pe_tup (pa_cons (pe_tup pa_nil) pa_nil)) (pv 17))))
          (pss_one (ps_if (DL.k_truth (K := K) rfl (pe_callB (id := "all") (DL.k_all (K := K) rfl rfl) (by rfl) T.m_all (by decide +kernel) (pa_cons (pe_lc (own := [("row", 10)]) (g := (gName 10)) (tt := tYes) rfl sc_solutions.nd (DL.k_tup (K := K) rfl (pv 15)) (blkOk_by (own := [("row", 10)]) (N := N_solutions) (sc := defScope s_solutions) (by decide +kernel)) (fun _ _ _ _ _ => by exact (pg_name (i := 10) sc_solutions.nd rfl (by first | exact Or.inl rfl | exact Or.inr rfl))) (fun _ _ _ _ _ => by exact pts_nil) (fun _ _ _ _ _ => by exact (pe_callB (id := "any") (DL.k_anyI (K := K) rfl rfl) (by rfl) T.m_any (by decide +kernel) (pa_cons (pv 10) pa_nil)))) pa_nil)) (by intro _; rfl))
            (pss_one (DL.ps_dputN hu64 rfl (pv 12) (pe_tup (pa_cons (pe_callB (id := "len") (DL.k_len (K := K) rfl) (by rfl) T.m_len (by decide +kernel) (pa_cons (pv 13) pa_nil)) (pa_cons (pv 15) pa_nil))) pe_bl rfl))
            pss_nil)))))))))
      (pss_one (ps_ret (pe_lc (own := [("_", 18), ("whole", 15)]) (g := (gTup K 2 (gCons (gName 18) (gCons (gName 15) gNil)))) (tt := tYes) rfl sc_solutions.nd (DL.k_list (K := K) rfl (pe_callB (id := "sorted") (DL.k_sortedN (K := K) rfl rfl hu64 rfl) (by rfl) T.m_sorted (by decide +kernel) (pa_cons (pv 12) pa_nil))) (blkOk_by (own := [("_", 18), ("whole", 15)]) (N := N_solutions) (sc := defScope s_solutions) (by decide +kernel)) (fun _ _ _ _ _ => by exact (pg_tup rfl (pgs_cons (pg_name (i := 18) sc_solutions.nd rfl (by first | exact Or.inl rfl | exact Or.inr rfl)) (pgs_cons (pg_name (i := 15) sc_solutions.nd rfl (by first | exact Or.inl rfl | exact Or.inr rfl)) pgs_nil)))) (fun _ _ _ _ _ => by exact pts_nil) (fun _ _ _ _ _ => by exact (pv 15)))))))))))))), fun ds k ⟨l0, l1, r0, r1, res, e, ok, ok', hm, hk⟩ => ?_⟩
  subst e
  unfold solM at hm
  split at hm
  case isFalse => cases hm
  case isTrue hmany =>
  obtain ⟨shares, hsh, hm⟩ := Option.bind_eq_some_iff.mp hm
  obtain ⟨basis, hb, hm⟩ := Option.bind_eq_some_iff.mp hm
  split at hm
  case isFalse => cases hm
  case isTrue hok =>
  obtain ⟨h4096, hbl, hw100, hall⟩ := hok
  have hres := Option.some.inj hm
  let many := manyM l1 r1
  let gaps := gapsM l1 r1 many
  let wd := l0.length + r0.length
  let sets := powM basis
  have hw2 : 2 ≤ wd := by
    have h1 := ok.2.2.2.2
    have h2 := ok'.2.2.2.2
    show 2 ≤ l0.length + r0.length
    omega
  have hgl : gaps.length = many := by show ((List.range many).map _).length = _; simp
  -- many
  refine wps_seq (wps_asg (d := .int (many : Int)) (ev_is (ev_cb (ea_cons (ev_len (ev_ixT (j := 1) (ev_var rfl) ev_int rfl) (len_tI l1)) (ea_cons (ev_len (ev_ixT (j := 1) (ev_var rfl) ev_int rfl) (len_tI r1)) ea_nil)) rc_max2) ?_) ?_)
  · refine congrArg D.int ?_
    show _ = ((manyM l1 r1 : Nat) : Int)
    unfold manyM
    by_cases c : l1.length < r1.length
    · rw [if_pos c, if_pos (by omega)]
    · rw [if_neg c, if_neg (by omega)]
  refine wps_seq (wps_asgN (evN_lst ea_nil (by decide)) ?_)
  -- gaps
  refine wps_seq (wps_for (xs := List.range many) (e := fun (i : Nat) => D.int (i : Int)) (ei_rngN (ea_cons (ev_var rfl) ea_nil) (by show manyM l1 r1 ≤ _; omega)) (fun i env => ∃ s4 s5 s6, env = [.fz (tR [l0, l1]), .fz (tR [r0, r1]), .fz (.int (many : Int)), .ow none (lI (((List.range many).take i).map fun a => ownAt r1 a - ownAt l1 a)), s4, s5, s6, .no, .no, .no, .no, .no, .no, .no, .no, .no, .no, .no, .no])
    ⟨_, _, _, rfl⟩ ?_ ?_)
  · rintro i a env1 hi ⟨s4, s5, s6, rfl⟩
    refine ⟨_, [4], wpg_name (by decide), ?_⟩
    refine wps_seq (wps_asg (d := .int (ownAt l1 a)) (ev_if (et_test (ev_op (ev_var rfl) (ev_len (ev_ixT (j := 1) (ev_var rfl) ev_int rfl) (len_tI l1)) ro_cmp)) (fun c => ?_) (fun c => ?_)) ?_)
    · have c' := of_decide_eq_true c
      exact ev_is (ev_ixI (ev_ixT (j := 1) (ev_var rfl) ev_int rfl) (ev_var rfl) (by omega)) (by unfold ownAt; rw [if_pos (by omega)])
    · have c' := of_decide_eq_false c
      exact ev_is ev_int (by unfold ownAt; rw [if_neg (by omega)])
    refine wps_seq (wps_asg (d := .int (ownAt r1 a)) (ev_if (et_test (ev_op (ev_var rfl) (ev_len (ev_ixT (j := 1) (ev_var rfl) ev_int rfl) (len_tI r1)) ro_cmp)) (fun c => ?_) (fun c => ?_)) ?_)
    · have c' := of_decide_eq_true c
      exact ev_is (ev_ixI (ev_ixT (j := 1) (ev_var rfl) ev_int rfl) (ev_var rfl) (by omega)) (by unfold ownAt; rw [if_pos (by omega)])
    · have c' := of_decide_eq_false c
      exact ev_is ev_int (by unfold ownAt; rw [if_neg (by omega)])
    refine wps_app (i := 3) rfl (ev_sub (ev_var rfl) (ev_var rfl)) ?_ ⟨.fz (.int (a : Int)), .fz (.int (ownAt l1 a)), .fz (.int (ownAt r1 a)), ?_⟩
    · rw [List.length_map, List.length_map, List.length_take, List.length_range]; show min i (manyM l1 r1) < _; omega
    · rw [take_more hi, List.map_append]
      unfold lI
      rw [List.map_append] <;> rfl
  rintro env1 ⟨s4, s5, s6, rfl⟩
  rw [List.take_length]
  refine wps_freeze 3 rfl ?_
  refine wps_seq (wps_asg (d := setsD [[]]) (EvN.ev (evN_lst (ea_cons (ev_tup ea_nil (Nat.zero_le _)) ea_nil) (Nat.le_of_ble_eq_true rfl))) ?_)
  -- shares
  refine wps_seq (wps_forL (xs := gaps) (e := D.int) (ev_var rfl) (fun i env => ∃ sh s8, env = [.fz (tR [l0, l1]), .fz (tR [r0, r1]), .fz (.int (many : Int)), .fz (lI gaps), s4, s5, s6, .fz (setsD sh), s8, .no, .no, .no, .no, .no, .no, .no, .no, .no, .no] ∧ sharesM l0 r0 (gaps.drop i) sh = some shares)
    ⟨_, _, rfl, hsh⟩ ?_ ?_)
  · rintro i gap env1 hi ⟨sh, s8, rfl, hd⟩
    obtain ⟨hi', rfl⟩ := List.getElem?_eq_some_iff.mp hi
    rw [List.drop_eq_getElem_cons hi', sharesM] at hd
    obtain ⟨rows, hr1, hd⟩ := Option.bind_eq_some_iff.mp hd
    split at hd
    case isFalse => cases hd
    case isTrue ht =>
    obtain ⟨t1, t2, t3⟩ := ht
    refine ⟨_, [8], wpg_name (by decide), ?_⟩
    refine wps_asg (d := setsD ((sh.map fun s => rows.map fun r => s ++ [r]).flatten)) (EvN.ev (evN_is (evN_lc2 (xs := sh) (e := tR) (fun _ => rows) (fun _ r => tI r) (fun s r => tR (s ++ [r])) 100 (ei_list (ev_var rfl)) (by omega) (fun x _ => t2) fun s hs =>
      ⟨_, wpg_name (by decide), ei_list (ev_call (d := rowsD rows) (ea_cons (ev_var rfl) (ea_cons (ev_ixT (j := 0) (ev_var rfl) ev_int rfl) (ea_cons (ev_ixT (j := 0) (ev_var rfl) ev_int rfl) ea_nil))) fun k hk => ⟨_, l0, r0, rows, rfl, ok, ok', hr1, hk⟩), fun r hr => ⟨_, wpg_name (by decide), ev_catT (e := tI) (ev_var rfl) (ev_tup1 (ev_var rfl)) (by have := t3 s hs; simp; omega)⟩⟩) (by
        unfold setsD
        rw [List.map_flatten, List.map_map]
        refine congrArg (fun l => D.lst (List.flatten l)) (List.map_congr_left fun x _ => ?_)
        show _ = List.map tR (List.map _ _)
        rw [List.map_map] <;> rfl))) ⟨_, _, rfl, hd⟩
  rintro env1 ⟨sh, s8, rfl, hd⟩
  rw [List.drop_length] at hd
  have hss : sh = shares := Option.some.inj hd
  subst hss
  refine wps_seq (wps_asg (d := rowsD basis) (ev_call (ea_cons (ev_ixT (j := 0) (ev_var rfl) ev_int rfl) (ea_cons (ev_ixT (j := 0) (ev_var rfl) ev_int rfl) ea_nil)) fun k hk => ⟨l0, r0, basis, rfl, ok, hb, hk⟩) ?_)
  refine wps_seq (wps_if (et_test (ev_op (ev_mul (ev_len (ev_var rfl) (len_map tR sh)) (ev_op ev_int (ev_len (ev_var rfl) (len_map tI basis)) (ro_intC (C := CPow) (f := fun i j => i * 2 ^ j.toNat) ⟨by omega, by omega, by decide⟩)) (.inl ?_)) ev_int ro_cmp)) (fun c => ?_) (fun c => wps_next ?_))
  · have hp : 1 ≤ 2 ^ basis.length := Nat.one_le_two_pow
    have hsl : sh.length ≤ 4096 := Nat.le_trans (Nat.le_mul_of_pos_right _ hp) h4096
    constructor <;> omega
  · exfalso
    have c' := of_decide_eq_true c
    rw [Int.toNat_natCast, Int.one_mul] at c'
    have e3 : (sh.length : Int) * 2 ^ basis.length = ((sh.length * 2 ^ basis.length : Nat) : Int) := by push_cast; rfl
    rw [e3] at c'
    omega
  -- found
  refine wps_seq (wps_asgN evN_dN ?_)
  have hsl2 : sh.length * sets.length ≤ 4096 := by show sh.length * (powM basis).length ≤ _; rw [powM_len]; exact h4096
  let G : Nat → List (Nat × List (List Int)) := fun i => (sh.take i).foldl (fun fs share => sets.foldl (putP wd share) fs) []
  refine wps_seq (wps_forL (xs := sh) (e := tR) (ev_var rfl) (fun i env => ∃ s9 s13 s14 s15 s17, env = [.fz (tR [l0, l1]), .fz (tR [r0, r1]), .fz (.int (many : Int)), .fz (lI gaps), s4, s5, s6, .fz (setsD sh), s8, s9, .no, .fz (rowsD basis), .ow none (.dN w (keysOf (G i))), s13, s14, s15, .no, s17, .no])
    ⟨_, _, _, _, _, rfl⟩ ?_ ?_)
  · rintro i share env1 hi ⟨s9, s13, s14, s15, s17, rfl⟩
    have hsm := List.mem_of_getElem? hi
    have hGn : G (i + 1) = sets.foldl (putP wd share) (G i) := foldl_take _ _ hi
    have hGl : (G i).length ≤ (sh.take i).length * sets.length := by
      have := found_fold wd sets (sh.take i) []
      rw [List.length_nil, Nat.zero_add] at this
      exact this
    have hil : i < sh.length := (List.getElem?_eq_some_iff.mp hi).1
    have hGb : (G i).length + sets.length ≤ 4096 := by
      rw [List.length_take, Nat.min_eq_left (by omega)] at hGl
      have h5 : (i + 1) * sets.length ≤ sh.length * sets.length := Nat.mul_le_mul_right _ hil
      rw [Nat.add_mul, Nat.one_mul] at h5
      omega
    refine ⟨_, [9], wpg_name (by decide), ?_⟩
    let W : Nat → List (Nat × List (List Int)) := fun j => (sets.take j).foldl (putP wd share) (G i)
    refine wps_forL (xs := sets) (e := tR) (ev_call (d := setsD sets) (ea_cons (ev_var rfl) ea_nil) fun k hk => ⟨basis, rfl, hbl, hk⟩)
      (fun j env => ∃ s13 s14 s15 s17, env = [.fz (tR [l0, l1]), .fz (tR [r0, r1]), .fz (.int (many : Int)), .fz (lI gaps), s4, s5, s6, .fz (setsD sh), s8, .fz (tR share), .no, .fz (rowsD basis), .ow none (.dN w (keysOf (W j))), s13, s14, s15, .no, s17, .no])
      ⟨_, _, _, _, rfl⟩ ?_ ?_
    · rintro j rows env1 hj ⟨s13, s14, s15, s17, rfl⟩
      have htm := List.mem_of_getElem? hj
      obtain ⟨h3, hrw⟩ := hall share hsm rows htm
      have hWn : W (j + 1) = putP wd share (W j) rows := foldl_take _ _ hj
      have hWl : (W j).length ≤ 4096 := by
        have h6 := putP_fold wd share (sets.take j) (G i)
        have h7 : (sets.take j).length ≤ sets.length := by rw [List.length_take]; omega
        exact Nat.le_trans h6 (by omega)
      refine ⟨_, [13], wpg_name (by decide), ?_⟩
      let every := share ++ rows
      have hel : every.length ≤ 3 := by show (share ++ rows).length ≤ 3; rw [List.length_append]; exact h3
      refine wps_seq (wps_asg (d := tR every) (ev_catT (e := tI) (ev_var rfl) (ev_var rfl) (by omega)) ?_)
      refine wps_seq (wps_asg (d := tR (colsM wd every)) (ev_if (ev_truT (e := tI) (ev_var rfl)) (fun c => ?_) (fun c => ?_)) ?_)
      · have hne : every.isEmpty = false := by simpa using c
        have h1 : 1 ≤ every.length := by
          cases he : every with
          | nil => rw [he] at hne; cases hne
          | cons a b => simp
        refine ev_is (ev_tupL (EvN.ev (evN_lcE (xs := (List.range wd).map fun i => every.map fun r => r.getD i 0) (e := tI) tI id (by rw [List.map_map]; exact ei_zipS (ev_var rfl) h1 hel hrw) (by simp; show l0.length + r0.length ≤ _; omega) fun col _ =>
          ⟨_, wpg_name (by decide), ev_tupT (ev_var rfl)⟩))) ?_
        unfold colsM
        rw [hne, List.map_id]
        rfl
      · have hne : every.isEmpty = true := by simpa using c
        refine ev_is (ev_tup ea_nil (Nat.zero_le _)) ?_
        unfold colsM
        rw [hne]
        rfl
      refine wps_seq (wps_asg (d := .int (wd : Int)) (ev_addN (ev_len (ev_ixT (j := 0) (ev_var rfl) ev_int rfl) (len_tI l0)) (ev_len (ev_ixT (j := 0) (ev_var rfl) ev_int rfl) (len_tI r0))) ?_)
      refine wps_seq (wps_asg (d := tR (wholeM wd every)) (ev_if (et_test (ev_eqI (ev_len (ev_var rfl) (len_tR (colsM wd every))) (ev_var rfl))) (fun c => ?_) (fun c => ?_)) ?_)
      · have c' : (colsM wd every).length = wd := by have := of_decide_eq_true c; omega
        exact ev_is (ev_var rfl) (by unfold wholeM; rw [if_pos c'])
      · have c' : ¬ (colsM wd every).length = wd := fun z => by rw [z] at c; simp at c
        refine ev_is (ev_repT (ev_tup (ea_cons (ev_tup ea_nil (Nat.zero_le _)) ea_nil) (Nat.le_of_ble_eq_true rfl)) (ev_var rfl) (by simp) (.inr (by omega)) (by show ((l0.length + r0.length : Nat) : Int) ≤ _; omega) (by simp)) ?_
        unfold wholeM
        rw [if_neg c', Int.toNat_natCast, flat_one]
        unfold tR
        rw [List.map_replicate]
        rfl
      let whole := wholeM wd every
      have hwl : whole.length ≤ 100 := by
        show (wholeM wd every).length ≤ 100
        unfold wholeM
        split
        · next z => rw [z]; exact hw100
        · rw [List.length_replicate]; exact hw100
      refine wps_if (b := allAny whole) (ev_truB (ev_all (EvN.ev (evN_lcE (xs := whole) (e := tI) D.bl (fun r => r.any (· != 0)) (ei_tup (ev_var rfl)) (by omega) fun r _ =>
        ⟨_, wpg_name (by decide), ev_anyI (ev_var rfl)⟩)))) (fun c => ?_) (fun c => wps_next ?_)
      · refine wps_dputN (i := 12) (ks := keysOf (W j)) (kk := nkPair (rows.length, whole)) rfl ev_bl (ev_is (ev_tup (ea_cons (ev_len (ev_var rfl) (len_tR rows)) (ea_cons (ev_var rfl) ea_nil)) (Nat.le_of_ble_eq_true rfl)) (nd_pair (rows.length, whole)).symm) (depth_pair _) (by unfold keysOf; rw [List.length_map]; omega) ⟨.fz (tR rows), .fz (tR every), .fz (tR whole), .fz (.int (wd : Int)), ?_⟩
        rw [insN_keys, hWn]
        unfold putP
        rw [if_pos c]
        rfl
      · refine ⟨.fz (tR rows), .fz (tR every), .fz (tR whole), .fz (.int (wd : Int)), ?_⟩
        rw [hWn]
        unfold putP
        rw [if_neg (by rw [show allAny (wholeM wd (share ++ rows)) = false from c]; exact Bool.false_ne_true)]
        rfl
    · rintro env1 ⟨s13, s14, s15, s17, rfl⟩
      refine ⟨.fz (tR share), s13, s14, s15, s17, ?_⟩
      rw [hGn, show W sets.length = sets.foldl (putP wd share) (G i) by show (sets.take sets.length).foldl _ _ = _; rw [List.take_length]]
  · rintro env1 ⟨s9, s13, s14, s15, s17, rfl⟩
    have hG : G sh.length = foundM wd sets sh := by
      show (sh.take sh.length).foldl _ _ = _
      rw [List.take_length]
      rfl
    rw [hG]
    have hfl : (foundM wd sets sh).length ≤ 4096 := by
      have := found_fold wd sets sh []
      rw [List.length_nil, Nat.zero_add] at this
      exact Nat.le_trans this hsl2
    refine wps_freeze 12 rfl (wps_ret (EvN.ev (evN_is (evN_lcE (xs := isort lePair (foundM wd sets sh)) (e := kPair) tR (fun p => p.2) (ei_list (EvN.ev (evN_is (evN_cb (ea_cons (ev_var rfl) ea_nil) (rcn_sortedN (n := 3) (ks := keysOf (foundM wd sets sh)) (by unfold keysOf; rw [List.length_map]; omega) (by rw [nds_keys]; exact pl_map pl_kPair _) (by decide) (by rw [nds_keys]; exact pairs_alike _) (by rw [nds_keys]; exact pairs_sortable _))) (by rw [nds_keys, sortD_pairs])))) (by rw [(isort_perm lePair _).length_eq]; omega) fun p _ =>
      ⟨_, wpg_tup (wpgs_name (by decide) (wpgs_name (by decide) wpgs_nil)) rfl, ev_var rfl⟩) (by rw [hres] <;> rfl))) hk)
end
end K65

namespace K65
open PySem L2 DL
section
variable {P : Program} {w : World} {K : PySem.W.Frag} {mg : Str → Option Value} {base : Heap}
/-! the draws -/
def StOk (d : D) : Prop := ∃ (cells : List Int) (a c : Int) (b : Nat), d = .lst [lI cells, .int a, .int (b : Int), .int c]
abbrev s__law_draw : Stmt := top 20
abbrev N__law_draw : List Str := ["stream", "many", "value"]
abbrev P__law_draw : List Str := ["stream", "many"]
theorem sc__law_draw : FnScope N__law_draw P__law_draw (defScope s__law_draw) := ⟨rfl, rfl, rfl, by decide +kernel, rfl, by decide +kernel, by decide +kernel⟩
/- 0:stream 1:many 2:value -/
def S_draw (d0 : D) (ds : List D) (k : D → D → Prop) : Prop := StOk d0 ∧ ∃ many : Int, ds = [.int many] ∧ 0 < many ∧ many < 1000000 ∧ ∀ v d1, 0 ≤ v → v < many → StOk d1 → k (.int v) d1
theorem fmod_in {a b : Int} (h : 0 < b) : 0 ≤ a.fmod b ∧ a.fmod b < b := by
  rw [Int.fmod_eq_emod_of_nonneg a (Int.le_of_lt h)]
  exact ⟨Int.emod_nonneg _ (by omega), Int.emod_lt_of_pos _ h⟩
theorem ok_law_draw {f : Addr} {fd : FuncData} (F : Fun K "_law_draw" "_law_draw" s__law_draw f fd) (T : Bl mg) : FnOk P w K mg base CX0 1 f fd P__law_draw (spIO S_draw) := by
  refine fn_okIO F sc__law_draw (fun d0 ds k ⟨_, _, e, _⟩ => by rw [e] <;> rfl) (by decide) (fun cdv A outer s H E hr => ?_)
  have hu64 := hu64_of hr
  refine ⟨_, (pss_cons (ps_if (PW.pt (pw_and (pt_cmpR (DL.k_eqD (K := K) rfl hu64) (pe_ix (DL.k_ixL (K := K) rfl) (pv 0) pe_int (fun _ _ => rfl)) pe_int (nomark _)) (pw_and1 (pt_cmpR op_lt (pe_ix (DL.k_ixL (K := K) rfl) (pv 0) pe_int (fun _ _ => rfl)) (pe_callB (id := "len") (DL.k_len (K := K) rfl) (by rfl) T.m_len (by decide +kernel) (pa_cons (pe_ix (DL.k_ixL (K := K) rfl) (pv 0) pe_int (fun _ _ => rfl)) pa_nil)) (nomark _)))))
        (pss_cons (ps_asg (pe_callB (id := "abs") call_abs (by rfl) T.m_abs (by decide +kernel) (pa_cons (pe_callTy (T := "int") call_int1 (by rfl) T.m_int (by decide +kernel) (pa_cons (pe_ix (DL.k_ixL (K := K) rfl) (pe_ix (DL.k_ixL (K := K) rfl) (pv 0) pe_int (fun _ _ => rfl)) (pe_ix (DL.k_ixL (K := K) rfl) (pv 0) pe_int (fun _ _ => rfl)) (fun _ _ => rfl)) pa_nil)) pa_nil)) (pg_sub (pv 0) pe_int set_list))
        (pss_one (ps_asg (pe_op op_add (pe_ix (DL.k_ixL (K := K) rfl) (pv 0) pe_int (fun _ _ => rfl)) pe_int) (pg_sub (pv 0) pe_int set_list))))
        pss_nil)
      (pss_cons (ps_if (pt_cmpR (DL.k_eqD (K := K) rfl hu64) (pe_ix (DL.k_ixL (K := K) rfl) (pv 0) pe_int (fun _ _ => rfl)) pe_int (nomark _))
        (pss_cons (ps_asg (pe_op op_modN (pe_callTy (T := "int") call_int1 (by rfl) T.m_int (by decide +kernel) (pa_cons (pe_op op_add (pe_op op_mul (pe_ix (DL.k_ixL (K := K) rfl) (pv 0) pe_int (fun _ _ => rfl)) pe_int) pe_int) pa_nil)) pe_int) (pg_sub (pv 0) pe_int set_list))
        (pss_one (ps_ret (pe_op op_modN (pe_callTy (T := "int") call_int1 (by rfl) T.m_int (by decide +kernel) (pa_cons (pe_op op_fdivN (pe_ix (DL.k_ixL (K := K) rfl) (pv 0) pe_int (fun _ _ => rfl)) pe_int) pa_nil)) (pv 1)))))
        pss_nil)
      (pss_cons (ps_set (i := 2) sc__law_draw.nd rfl (by first | exact Or.inl rfl | exact Or.inr rfl) (pe_op op_modN (pe_callTy (T := "int") call_int1 (by rfl) T.m_int (by decide +kernel) (pa_cons (pe_ix (DL.k_ixL (K := K) rfl) (pv 0) pe_int (fun _ _ => rfl)) pa_nil)) (pv 1)))
      (pss_cons (ps_asg (pe_op op_fdivN (pe_ix (DL.k_ixL (K := K) rfl) (pv 0) pe_int (fun _ _ => rfl)) (pv 1)) (pg_sub (pv 0) pe_int set_list))
      (pss_one (ps_ret (pv 2))))))), fun p d0 ds k ⟨⟨cells, a, c, b, e0⟩, many, e, m1, m2, hk⟩ => ?_⟩
  subst e0 e
  refine wps_mid (fun e => ∃ (a c : Int) (b : Nat), e = [.ow (some p) (.lst [lI cells, .int a, .int (b : Int), .int c]), .fz (.int many), .no]) (wps_if (et_and (et_test (ev_eqI (ev_ixO rfl ev_int rfl) ev_int)) fun _ => et_test (ev_op (ev_ixO rfl ev_int rfl) (ev_len (ev_ixO rfl ev_int rfl) (len_lI cells)) ro_cmp)) (fun h => ?_) (fun _ => wps_next ⟨a, c, b, rfl⟩)) ?_
  · have hb : b < cells.length := by
      rw [Bool.and_eq_true] at h
      have := of_decide_eq_true h.2
      omega
    refine wps_seq (wps_setL (i := 0) (j := 1) rfl (ev_cb (ea_cons (ev_cb (ea_cons (ev_ixLE (e := D.int) (j := b) (ev_ixO rfl ev_int rfl) (ev_ixO rfl ev_int rfl) (get_lt (x := 0) hb)) ea_nil) rc_intI) ea_nil) rc_abs) ev_int (Nat.le_of_ble_eq_true rfl) ?_)
    exact wps_setL (i := 0) (j := 2) rfl (ev_addN (b := 1) (ev_ixO rfl ev_int rfl) ev_int) ev_int (Nat.le_of_ble_eq_true rfl) ⟨_, _, _, rfl⟩
  rintro e1 ⟨a, c, b, rfl⟩
  refine wps_seq (wps_if (et_test (ev_eqI (ev_ixO rfl ev_int rfl) ev_int)) (fun h => ?_) (fun _ => wps_next ?_))
  · refine wps_seq (wps_setL (i := 0) (j := 3) rfl (ev_fmod (ev_cb (ea_cons (ev_add (ev_mul (ev_ixO rfl ev_int rfl) ev_int (.inr (by decide))) ev_int) ea_nil) rc_intI) ev_int (by decide)) ev_int (Nat.le_of_ble_eq_true rfl) ?_)
    refine wps_ret (ev_fmod (ev_cb (ea_cons (ev_fdiv (ev_ixO rfl ev_int rfl) ev_int (by unfold CDivN; decide)) ea_nil) rc_intI) (ev_var rfl) (by omega)) ⟨_, rfl, hk _ _ (fmod_in m1).1 (fmod_in m1).2 ⟨_, _, _, _, rfl⟩⟩
  · refine wps_seq (wps_asg (ev_fmod (ev_cb (ea_cons (ev_ixO rfl ev_int rfl) ea_nil) rc_intI) (ev_var rfl) (by omega)) ?_)
    refine wps_seq (wps_setL (i := 0) (j := 1) rfl (ev_fdiv (ev_ixO rfl ev_int rfl) (ev_var rfl) (by unfold CDivN; omega)) ev_int (Nat.le_of_ble_eq_true rfl) ?_)
    exact wps_ret (ev_var rfl) ⟨_, rfl, hk _ _ (fmod_in m1).1 (fmod_in m1).2 ⟨_, _, _, _, rfl⟩⟩
abbrev s__law_pick : Stmt := top 21
abbrev N__law_pick : List Str := ["stream", "rows"]
abbrev P__law_pick : List Str := ["stream", "rows"]
theorem sc__law_pick : FnScope N__law_pick P__law_pick (defScope s__law_pick) := ⟨rfl, rfl, rfl, by decide +kernel, rfl, by decide +kernel, by decide +kernel⟩
/- 0:stream 1:rows -/
def S_pick (d0 : D) (ds : List D) (k : D → D → Prop) : Prop := StOk d0 ∧ ∃ rows, ds = [rowsD rows] ∧ rows ≠ [] ∧ rows.length ≤ 1000 ∧ ∀ r ∈ rows, ∀ d1, StOk d1 → k (tI r) d1
theorem S_draw_mono {d0 : D} {ds : List D} (k1 k2 : D → D → Prop) (h : ∀ a b, k1 a b → k2 a b) (s : S_draw d0 ds k1) : S_draw d0 ds k2 := by
  obtain ⟨s0, m, e, h1, h2, hk⟩ := s
  exact ⟨s0, m, e, h1, h2, fun v d1 a b c => h _ _ (hk v d1 a b c)⟩
theorem S_pick_mono {d0 : D} {ds : List D} (k1 k2 : D → D → Prop) (h : ∀ a b, k1 a b → k2 a b) (s : S_pick d0 ds k1) : S_pick d0 ds k2 := by
  obtain ⟨s0, m, e, h1, h2, hk⟩ := s
  exact ⟨s0, m, e, h1, h2, fun v hv d1 a => h _ _ (hk v hv d1 a)⟩
theorem ok_law_pick {f : Addr} {fd : FuncData} (F : Fun K "_law_pick" "_law_pick" s__law_pick f fd) (T : Bl mg) (C__law_draw : Cal P w K mg base 1 "_law_draw" P__law_draw (spIO S_draw)) : FnOk P w K mg base CX0 2 f fd P__law_pick (spIO S_pick) := by
  refine fn_okIO F sc__law_pick (fun d0 ds k ⟨_, _, e, _⟩ => by rw [e] <;> rfl) (by decide) (fun cdv A outer s H E hr => ⟨_, (pss_one (ps_ret (pe_ix (DL.k_ixL (K := K) rfl) (pv 1) (DL.pe_cal C__law_draw (hr.mono (by first | decide | omega)) (by rfl) (pa_cons (pv 0) (pa_cons (pe_callB (id := "len") (DL.k_len (K := K) rfl) (by rfl) T.m_len (by decide +kernel) (pa_cons (pv 1) pa_nil)) pa_nil))) (fun _ _ => rfl)))), fun p d0 ds k ⟨s0, rows, e, hne, hl, hk⟩ => ?_⟩)
  subst e
  have hpos : 0 < rows.length := List.length_pos_iff.mpr hne
  refine wps_retE (wpe_op (wpe_ev (ev_var rfl) (wpe_callIO (i := 0) rfl (ea_cons (ev_len (ev_var rfl) (len_map tI rows)) ea_nil) ⟨s0, _, rfl, by omega, by omega, fun v d1 h1 h2 s1 => ?_⟩ fun k1 k2 h s => S_draw_mono k1 k2 h s)))
  obtain ⟨j, rfl⟩ := Int.eq_ofNat_of_zero_le h1
  have hj : j < rows.length := by omega
  exact ⟨tI rows[j], ro_ixL (atI_nat' (by rw [List.getElem?_map]; simp [hj])), d1, rfl, hk _ (List.getElem_mem hj) d1 s1⟩
end
end K65

namespace K65
open PySem L2 DL
section
variable {P : Program} {w : World} {K : PySem.W.Frag} {mg : Str → Option Value} {base : Heap}
abbrev s__law_under : Stmt := top 25
abbrev N__law_under : List Str := ["one", "two", "k"]
abbrev P__law_under : List Str := ["one", "two"]
theorem sc__law_under : FnScope N__law_under P__law_under (defScope s__law_under) := ⟨rfl, rfl, rfl, by decide +kernel, rfl, by decide +kernel, by decide +kernel⟩
/- 0:one 1:two 2:k -/
def underL (one two : List Int) : Bool := ((List.range one.length).map fun k => decide (one.getD k 0 ≤ two.getD k 0)).all id
def S_law_under (ds : List D) (k : D → Prop) : Prop := ∃ one two, ds = [tI one, tI two] ∧ one.length ≤ two.length ∧ one.length ≤ 1000 ∧ k (.bl (underL one two))
theorem ok_law_under {f : Addr} {fd : FuncData} (F : Fun K "_law_under" "_law_under" s__law_under f fd) (T : Bl mg) : FnOk P w K mg base CX0 1 f fd P__law_under (spR S_law_under) := by
  refine fn_ok F sc__law_under (fun ds k ⟨_, _, e, _⟩ => by rw [e] <;> rfl) (by decide) (fun cdv A outer s H E hr => ⟨_, (pss_one (ps_ret (pe_callB (id := "all") (DL.k_all (K := K) rfl rfl) (by rfl) T.m_all (by decide +kernel) (pa_cons (pe_lc (own := [("k", 2)]) (g := (gName 2)) (tt := tYes) rfl sc__law_under.nd (pi_range1 (by rfl) T.m_range (pa_cons (pe_callB (id := "len") (DL.k_len (K := K) rfl) (by rfl) T.m_len (by decide +kernel) (pa_cons (pv 0) pa_nil)) pa_nil)) (blkOk_by (own := [("k", 2)]) (N := N__law_under) (sc := defScope s__law_under) (by decide +kernel)) (fun _ _ _ _ _ => by exact (pg_name (i := 2) sc__law_under.nd rfl (by first | exact Or.inl rfl | exact Or.inr rfl))) (fun _ _ _ _ _ => by exact pts_nil) (fun _ _ _ _ _ => by exact (pe_cmpR op_le (pe_ix (DL.k_ixT (K := K) rfl) (pv 0) (pv 2) (fun _ _ => rfl)) (pe_ix (DL.k_ixT (K := K) rfl) (pv 1) (pv 2) (fun _ _ => rfl)) (nomark _)))) pa_nil)))), fun ds k ⟨one, two, e, hl, hl2, hk⟩ => ?_⟩)
  subst e
  exact wps_ret (ev_all (EvN.ev (evN_lcE (xs := List.range one.length) (e := fun (i : Nat) => D.int (i : Int)) D.bl (fun k => decide (one.getD k 0 ≤ two.getD k 0)) (ei_rngN (ea_cons (ev_len (ev_var rfl) (len_tI one)) ea_nil) (by omega)) (by rw [List.length_range]; omega) fun k hk =>
    ⟨_, wpg_name (by decide), ev_op (ev_ixI (ev_var rfl) (ev_var rfl) (List.mem_range.mp hk)) (ev_ixI (ev_var rfl) (ev_var rfl) (by have := List.mem_range.mp hk; omega)) ro_cmp⟩))) hk
abbrev s__law_is_even : Stmt := top 24
abbrev N__law_is_even : List Str := ["left", "right", "row", "first", "k"]
abbrev P__law_is_even : List Str := ["left", "right", "row"]
theorem sc__law_is_even : FnScope N__law_is_even P__law_is_even (defScope s__law_is_even) := ⟨rfl, rfl, rfl, by decide +kernel, rfl, by decide +kernel, by decide +kernel⟩
/- 0:left 1:right 2:row 3:first 4:k -/
def evenM (l r row : List Int) : Bool := decide (((List.range l.length).map fun k => l.getD k 0 * row.getD k 0).sum = ((List.range r.length).map fun k => r.getD k 0 * row.getD (l.length + k) 0).sum)
def S_law_is_even (ds : List D) (k : D → Prop) : Prop := ∃ l r row, ds = [tI l, tI r, tI row] ∧ (∀ x ∈ l, small x) ∧ (∀ x ∈ r, small x) ∧ l.length ≤ 100 ∧ r.length ≤ 100 ∧ row.length = l.length + r.length ∧ k (.bl (evenM l r row))
theorem getD_mem {l : List Int} {k : Nat} (h : k < l.length) : l.getD k 0 ∈ l := List.mem_of_getElem? (get_lt h)
theorem ok_law_is_even {f : Addr} {fd : FuncData} (F : Fun K "_law_is_even" "_law_is_even" s__law_is_even f fd) (T : Bl mg) : FnOk P w K mg base CX0 1 f fd P__law_is_even (spR S_law_is_even) := by
  refine fn_ok F sc__law_is_even (fun ds k ⟨_, _, _, e, _⟩ => by rw [e] <;> rfl) (by decide) (fun cdv A outer s H E hr => ?_)
  have hu64 := hu64_of hr
  refine ⟨_, (pss_cons (ps_set (i := 3) sc__law_is_even.nd rfl (by first | exact Or.inl rfl | exact Or.inr rfl) (pe_callB (id := "sum") (DL.k_sum (K := K) rfl rfl) (by rfl) T.m_sum (by decide +kernel) (pa_cons (pe_lc (own := [("k", 4)]) (g := (gName 4)) (tt := tYes) rfl sc__law_is_even.nd (pi_range1 (by rfl) T.m_range (pa_cons (pe_callB (id := "len") (DL.k_len (K := K) rfl) (by rfl) T.m_len (by decide +kernel) (pa_cons (pv 0) pa_nil)) pa_nil)) (blkOk_by (own := [("k", 4)]) (N := N__law_is_even) (sc := defScope s__law_is_even) (by decide +kernel)) (fun _ _ _ _ _ => by exact (pg_name (i := 4) sc__law_is_even.nd rfl (by first | exact Or.inl rfl | exact Or.inr rfl))) (fun _ _ _ _ _ => by exact pts_nil) (fun _ _ _ _ _ => by exact (pe_op op_mul (pe_ix (DL.k_ixT (K := K) rfl) (pv 0) (pv 4) (fun _ _ => rfl)) (pe_ix (DL.k_ixT (K := K) rfl) (pv 2) (pv 4) (fun _ _ => rfl))))) pa_nil)))
      (pss_one (ps_ret (pe_cmpR (DL.k_eqD (K := K) rfl hu64) (pv 3) (pe_callB (id := "sum") (DL.k_sum (K := K) rfl rfl) (by rfl) T.m_sum (by decide +kernel) (pa_cons (pe_lc (own := [("k", 4)]) (g := (gName 4)) (tt := tYes) rfl sc__law_is_even.nd (pi_range1 (by rfl) T.m_range (pa_cons (pe_callB (id := "len") (DL.k_len (K := K) rfl) (by rfl) T.m_len (by decide +kernel) (pa_cons (pv 1) pa_nil)) pa_nil)) (blkOk_by (own := [("k", 4)]) (N := N__law_is_even) (sc := defScope s__law_is_even) (by decide +kernel)) (fun _ _ _ _ _ => by exact (pg_name (i := 4) sc__law_is_even.nd rfl (by first | exact Or.inl rfl | exact Or.inr rfl))) (fun _ _ _ _ _ => by exact pts_nil) (fun _ _ _ _ _ => by exact (pe_op op_mul (pe_ix (DL.k_ixT (K := K) rfl) (pv 1) (pv 4) (fun _ _ => rfl)) (pe_ix (DL.k_ixT (K := K) rfl) (pv 2) (pe_op op_add (pe_callB (id := "len") (DL.k_len (K := K) rfl) (by rfl) T.m_len (by decide +kernel) (pa_cons (pv 0) pa_nil)) (pv 4)) (fun _ _ => rfl))))) pa_nil)) (nomark _))))), fun ds k ⟨l, r, row, e, hl, hr, h1, h2, h3, hk⟩ => ?_⟩
  subst e
  refine wps_seq (wps_asg (ev_sum (EvN.ev (evN_lcE (xs := List.range l.length) (e := fun (i : Nat) => D.int (i : Int)) D.int (fun k => l.getD k 0 * row.getD k 0) (ei_rngN (ea_cons (ev_len (ev_var rfl) (len_tI l)) ea_nil) (by omega)) (by rw [List.length_range]; omega) fun k hk =>
    ⟨_, wpg_name (by decide), ev_mul (ev_ixI (ev_var rfl) (ev_var rfl) (List.mem_range.mp hk)) (ev_ixI (ev_var rfl) (ev_var rfl) (by have := List.mem_range.mp hk; omega)) (.inl (hl _ (getD_mem (List.mem_range.mp hk))))⟩))) ?_)
  exact wps_ret (ev_eqI (ev_var rfl) (ev_sum (EvN.ev (evN_lcE (xs := List.range r.length) (e := fun (i : Nat) => D.int (i : Int)) D.int (fun k => r.getD k 0 * row.getD (l.length + k) 0) (ei_rngN (ea_cons (ev_len (ev_var rfl) (len_tI r)) ea_nil) (by omega)) (by rw [List.length_range]; omega) fun k hk =>
    ⟨_, wpg_name (by decide), ev_mul (ev_ixI (ev_var rfl) (ev_var rfl) (List.mem_range.mp hk)) (ev_ixI (ev_var rfl) (ev_addN (ev_len (ev_var rfl) (len_tI l)) (ev_var rfl)) (by have := List.mem_range.mp hk; omega)) (.inl (hr _ (getD_mem (List.mem_range.mp hk))))⟩)))) hk
abbrev s__law_all : Stmt := top 23
abbrev N__law_all : List Str := ["wide", "most", "rows", "k", "more", "row", "x"]
abbrev P__law_all : List Str := ["wide", "most"]
theorem sc__law_all : FnScope N__law_all P__law_all (defScope s__law_all) := ⟨rfl, rfl, rfl, by decide +kernel, rfl, by decide +kernel, by decide +kernel⟩
/- 0:wide 1:most 2:rows 3:k 4:more 5:row 6:x -/
def growM (most : Nat) (rows : List (List Int)) : List (List Int) := (rows.map fun row => (List.range (most + 1)).map fun (x : Nat) => row ++ [(x : Int)]).flatten
def allM (most : Nat) : Nat → List (List Int)
  | 0 => [[]]
  | n + 1 => growM most (allM most n)
def S_law_all (ds : List D) (k : D → Prop) : Prop := ∃ (wide : Nat) (most : Nat), ds = [.int (wide : Int), .int (most : Int)] ∧ wide ≤ 6 ∧ most ≤ 3 ∧ k (rowsD (allM most wide))
theorem growM_len (most : Nat) : ∀ rows : List (List Int), (growM most rows).length = rows.length * (most + 1)
  | [] => by simp [growM]
  | r :: rows => by
    have := growM_len most rows
    unfold growM at this ⊢
    rw [List.map_cons, List.flatten_cons, List.length_append, this, List.length_map, List.length_range, List.length_cons, Nat.add_mul, Nat.one_mul]
    omega
theorem allM_len {most : Nat} (h : most ≤ 3) : ∀ n, (allM most n).length ≤ 4 ^ n ∧ ∀ r ∈ allM most n, r.length = n
  | 0 => ⟨Nat.le_of_ble_eq_true rfl, fun r hr => by rw [List.mem_singleton.mp hr]; rfl⟩
  | n + 1 => by
    obtain ⟨h1, h2⟩ := allM_len h n
    refine ⟨?_, fun r hr => ?_⟩
    · rw [allM, growM_len, Nat.pow_succ]
      exact Nat.mul_le_mul h1 (by omega)
    · rw [allM, growM] at hr
      obtain ⟨l, hl, hr⟩ := List.mem_flatten.mp hr
      obtain ⟨row, hrow, rfl⟩ := List.mem_map.mp hl
      obtain ⟨x, _, rfl⟩ := List.mem_map.mp hr
      rw [List.length_append, h2 row hrow]
      rfl
theorem ok_law_all {f : Addr} {fd : FuncData} (F : Fun K "_law_all" "_law_all" s__law_all f fd) (T : Bl mg) : FnOk P w K mg base CX0 1 f fd P__law_all (spR S_law_all) := by
  refine fn_ok F sc__law_all (fun ds k ⟨_, _, e, _⟩ => by rw [e] <;> rfl) (by decide) (fun cdv A outer s H E hr => ⟨_, (pss_cons (ps_set (i := 2) sc__law_all.nd rfl (by first | exact Or.inl rfl | exact Or.inr rfl) (pe_lst (pa_cons (pe_tup pa_nil) pa_nil)))
      (pss_cons (ps_for PassesOwn.never rfl (pi_range1 (by rfl) T.m_range (pa_cons (pv 0) pa_nil)) (pg_name (i := 3) sc__law_all.nd rfl (by first | exact Or.inl rfl | exact Or.inr rfl))
        (pss_cons (ps_set (i := 4) sc__law_all.nd rfl (by first | exact Or.inl rfl | exact Or.inr rfl) (pe_lst pa_nil))
        (pss_cons (ps_for PassesOwn.never rfl (DL.k_list (K := K) rfl (pv 2)) (pg_name (i := 5) sc__law_all.nd rfl (by first | exact Or.inl rfl | exact Or.inr rfl))
          (pss_one (ps_expr (pe_bm PySem.F.plainAttrs_list PySem.F.slot_list_extend PySem.F.type_list_extend mt_extend (pv 4) (pa_cons (pe_lc (own := [("x", 6)]) (g := (gName 6)) (tt := tYes) rfl sc__law_all.nd (pi_range1 (by rfl) T.m_range (pa_cons (pe_op op_add (pv 1) pe_int) pa_nil)) (blkOk_by (own := [("x", 6)]) (N := N__law_all) (sc := defScope s__law_all) (by decide +kernel)) (fun _ _ _ _ _ => by exact (pg_name (i := 6) sc__law_all.nd rfl (by first | exact Or.inl rfl | exact Or.inr rfl))) (fun _ _ _ _ _ => by exact pts_nil) (fun _ _ _ _ _ => by exact (pe_op (DL.k_catT (K := K) rfl) (pv 5) (pe_tup (pa_cons (pv 6) pa_nil))))) pa_nil)))))
        (pss_one (ps_set (i := 2) sc__law_all.nd rfl (by first | exact Or.inl rfl | exact Or.inr rfl) (pv 4))))))
      (pss_one (ps_ret (pv 2))))), fun ds k ⟨wide, most, e, hw, hm, hk⟩ => ?_⟩)
  subst e
  have blen : ∀ n, n ≤ 6 → (allM most n).length ≤ 4096 := fun n hn => Nat.le_trans (allM_len hm n).1 (Nat.le_trans (Nat.pow_le_pow_right (by decide) hn) (by decide))
  refine wps_seq (wps_asg (d := rowsD [[]]) (EvN.ev (evN_lst (ea_cons (ev_tup ea_nil (Nat.zero_le _)) ea_nil) (Nat.le_of_ble_eq_true rfl))) ?_)
  refine wps_seq (wps_for (xs := List.range wide) (e := fun (i : Nat) => D.int (i : Int)) (ei_rngN (ea_cons (ev_var rfl) ea_nil) (by omega)) (fun i env => ∃ s3 s4 s5, env = [.fz (.int (wide : Int)), .fz (.int (most : Int)), .fz (rowsD (allM most i)), s3, s4, s5, .no])
    ⟨_, _, _, rfl⟩ ?_ ?_)
  · rintro i a env1 hi ⟨s3, s4, s5, rfl⟩
    have hil : i < wide := by
      have := (List.getElem?_eq_some_iff.mp hi).1
      rwa [List.length_range] at this
    have hrl := blen i (by omega)
    have hgl : (growM most (allM most i)).length ≤ 4096 := blen (i + 1) (by omega)
    refine ⟨_, [3], wpg_name (by decide), ?_⟩
    refine wps_seq (wps_asgN (evN_lst ea_nil (by decide)) ?_)
    let rows := allM most i
    refine wps_seq (wps_forL (xs := rows) (e := tI) (ev_var rfl) (fun j env => ∃ s5, env = [.fz (.int (wide : Int)), .fz (.int (most : Int)), .fz (rowsD rows), .fz (.int (a : Int)), .ow none (.lst ((growM most (rows.take j)).map tI)), s5, .no]) ⟨_, rfl⟩ ?_ ?_)
    · rintro j row env1 hj ⟨s5, rfl⟩
      have hjl : j < rows.length := (List.getElem?_eq_some_iff.mp hj).1
      have e2 : growM most (rows.take (j + 1)) = growM most (rows.take j) ++ (List.range (most + 1)).map fun (x : Nat) => row ++ [(x : Int)] := by
        unfold growM
        rw [take_more hj, List.map_append, List.flatten_append]
        simp
      have hsub : (growM most (rows.take (j + 1))).length ≤ 4096 := by
        rw [growM_len] at hgl ⊢
        refine Nat.le_trans (Nat.mul_le_mul_right _ ?_) hgl
        rw [List.length_take]
        exact Nat.min_le_right _ _
      have hrw : row.length = i := (allM_len hm i).2 row (List.mem_of_getElem? hj)
      refine ⟨_, [5], wpg_name (by decide), ?_⟩
      refine wps_ext (i := 4) rfl (EvN.ev (evN_lcE (xs := List.range (most + 1)) (e := fun (i : Nat) => D.int (i : Int)) tI (fun (x : Nat) => row ++ [(x : Int)]) (ei_rngN (ea_cons (ev_addN (b := 1) (ev_var rfl) ev_int) ea_nil) (by omega)) (by rw [List.length_range]; omega) fun x _ =>
        ⟨_, wpg_name (by decide), ev_catI (ev_var rfl) (ev_tup1I (ev_var rfl)) (by simp; omega)⟩)) ?_ ⟨.fz (tI row), ?_⟩
      · rw [e2, List.length_append] at hsub
        rw [List.length_map, List.length_map]
        omega
      · rw [e2, List.map_append]
        rfl
    · rintro env1 ⟨s5, rfl⟩
      rw [List.take_length]
      refine wps_freeze 4 rfl (wps_asg (d := rowsD (allM most (i + 1))) (ev_var rfl) ⟨_, _, _, rfl⟩)
  · rintro env1 ⟨s3, s4, s5, rfl⟩
    rw [List.length_range]
    exact wps_ret (ev_var rfl) hk
abbrev s__law_is_sum : Stmt := top 26
abbrev N__law_is_sum : List Str := ["row", "rows", "fits", "one", "k"]
abbrev P__law_is_sum : List Str := ["row", "rows"]
theorem sc__law_is_sum : FnScope N__law_is_sum P__law_is_sum (defScope s__law_is_sum) := ⟨rfl, rfl, rfl, by decide +kernel, rfl, by decide +kernel, by decide +kernel⟩
/- 0:row 1:rows 2:fits 3:one 4:k -/
def lessM (row f : List Int) : List Int := (List.range row.length).map fun k => row.getD k 0 - f.getD k 0
def sumL (rows : List (List Int)) : Nat → List Int → Option Bool
  | 0, _ => none
  | n + 1, row => if row.any (· != 0) then
      match rows.filter fun one => underL one row with
      | [] => some false
      | f :: _ => sumL rows n (lessM row f)
    else some true
def S_law_is_sum (ds : List D) (k : D → Prop) : Prop := ∃ row rows res, ds = [tI row, rowsD rows] ∧ Wide row.length rows ∧ row.length ≤ 100 ∧ rows.length ≤ 1000 ∧ sumL rows 64 row = some res ∧ k (.bl res)
theorem ok_law_is_sum {f : Addr} {fd : FuncData} (F : Fun K "_law_is_sum" "_law_is_sum" s__law_is_sum f fd) (T : Bl mg) (C__law_under : Cal P w K mg base 1 "_law_under" P__law_under (spR S_law_under)) : FnOk P w K mg base CX0 2 f fd P__law_is_sum (spR S_law_is_sum) := by
  refine fn_ok F sc__law_is_sum (fun ds k ⟨_, _, _, e, _⟩ => by rw [e] <;> rfl) (by decide) (fun cdv A outer s H E hr => ?_)
  have hu64 := hu64_of hr
  refine ⟨_, (pss_cons (ps_while PassesOwn.never (DL.k_truth (K := K) rfl (pe_callB (id := "any") (DL.k_anyI (K := K) rfl rfl) (by rfl) T.m_any (by decide +kernel) (pa_cons (pv 0) pa_nil)) (by intro _; rfl))
        (pss_cons (ps_set (i := 2) sc__law_is_sum.nd rfl (by first | exact Or.inl rfl | exact Or.inr rfl) (pe_lc (own := [("one", 3)]) (g := (gName 3)) (tt := _) rfl sc__law_is_sum.nd (DL.k_list (K := K) rfl (pv 1)) (blkOk_by (own := [("one", 3)]) (N := N__law_is_sum) (sc := defScope s__law_is_sum) (by decide +kernel)) (fun _ _ _ _ _ => by exact (pg_name (i := 3) sc__law_is_sum.nd rfl (by first | exact Or.inl rfl | exact Or.inr rfl))) (fun _ _ _ _ _ => by exact (pts_one (DL.k_truth (K := K) rfl (DL.pe_cal C__law_under (hr.mono (by first | decide | omega)) (by rfl) (pa_cons (pv 3) (pa_cons (pv 0) pa_nil))) (by intro _; rfl)))) (fun _ _ _ _ _ => by exact (pv 3))))
        (pss_cons (ps_if (pt_cmpR (DL.k_eqD (K := K) rfl hu64) (pv 2) (pe_lst pa_nil) (nomark _))
          (pss_one (ps_ret pe_bl))
          pss_nil)
        (pss_one (ps_set (i := 0) sc__law_is_sum.nd rfl (by first | exact Or.inl rfl | exact Or.inr rfl) (pe_callTy (T := "tuple") (DL.k_tupleOf (K := K) rfl) (by rfl) T.m_tuple (by decide +kernel) (pa_cons (pe_lc (own := [("k", 4)]) (g := (gName 4)) (tt := tYes) rfl sc__law_is_sum.nd (pi_range1 (by rfl) T.m_range (pa_cons (pe_callB (id := "len") (DL.k_len (K := K) rfl) (by rfl) T.m_len (by decide +kernel) (pa_cons (pv 0) pa_nil)) pa_nil)) (blkOk_by (own := [("k", 4)]) (N := N__law_is_sum) (sc := defScope s__law_is_sum) (by decide +kernel)) (fun _ _ _ _ _ => by exact (pg_name (i := 4) sc__law_is_sum.nd rfl (by first | exact Or.inl rfl | exact Or.inr rfl))) (fun _ _ _ _ _ => by exact pts_nil) (fun _ _ _ _ _ => by exact (pe_op op_sub (pe_ix (DL.k_ixT (K := K) rfl) (pv 0) (pv 4) (fun _ _ => rfl)) (pe_ix (DL.k_ixT (K := K) rfl) (pe_ix (DL.k_ixL (K := K) rfl) (pv 2) pe_int (fun _ _ => rfl)) (pv 4) (fun _ _ => rfl))))) pa_nil)))))))
      (pss_one (ps_ret pe_bl))), fun ds k ⟨row, rows, res, e, hw, hl, hl2, hm, hk⟩ => ?_⟩
  subst e
  refine wps_seq (wps_while (fun n env => ∃ row1 s2, env = [.fz (tI row1), .fz (rowsD rows), s2, .no, .no] ∧ row1.length = row.length ∧ sumL rows n row1 = some res) 64 ⟨row, _, rfl, rfl, hm⟩ ?_)
  rintro m env1 ⟨row1, s2, rfl, hrl, hs⟩
  cases m with
  | zero => cases hs
  | succ m =>
    rw [sumL] at hs
    refine ⟨row1.any (· != 0), ev_truB (ev_anyI (ev_var rfl)), fun hb => ?_, fun hb => ?_⟩
    · rw [if_pos hb] at hs
      let fits := rows.filter fun one => underL one row1
      have hfl : fits.length ≤ 1000 := Nat.le_trans (List.length_filter_le _ _) hl2
      refine wps_seq (wps_asg (d := rowsD fits) (EvN.ev (evN_is (evN_lcfE (xs := rows) (e := tI) tI (fun one => underL one row1) id (ei_list (ev_var rfl)) (by omega) fun one ho =>
        ⟨_, wpg_name (by decide), ev_truB (ev_call (ea_cons (ev_var rfl) (ea_cons (ev_var rfl) ea_nil)) fun k hk => ⟨one, row1, rfl, by rw [hw one ho]; omega, by rw [hw one ho]; omega, hk⟩), fun _ => ev_var rfl⟩) (by rw [List.map_id] <;> rfl))) ?_)
      refine wps_seq (wps_if (et_test (ev_eqF (e := rowsD) (a := fits) (b := []) (faith_lst faith_tI) (n := 2) (ev_var rfl) (EvN.ev (evN_lst ea_nil (by decide))) (pl_lst (n := 1) pl_tI _) rfl)) (fun c => ?_) (fun c => wps_next ?_))
      · have c' : rows.filter (fun one => underL one row1) = [] := of_decide_eq_true c
        rw [c'] at hs
        have hres : false = res := Option.some.inj hs
        refine wps_ret ev_bl ?_
        rwa [hres]
      · have c' : ¬ rows.filter (fun one => underL one row1) = [] := of_decide_eq_false c
        match hf : rows.filter (fun one => underL one row1) with
        | [] => exact (c' hf).elim
        | f :: r =>
          rw [hf] at hs
          have hfe : fits = f :: r := hf
          have hfm : f ∈ rows := (List.mem_filter.mp (by rw [hf]; exact List.mem_cons_self)).1
          have hfw := hw f hfm
          refine wps_asg (d := tI (lessM row1 f)) (ev_tupL (EvN.ev (evN_lcE (xs := List.range row1.length) (e := fun (i : Nat) => D.int (i : Int)) D.int (fun k => row1.getD k 0 - f.getD k 0) (ei_rngN (ea_cons (ev_len (ev_var rfl) (len_tI row1)) ea_nil) (by omega)) (by rw [List.length_range]; omega) fun k hk =>
            ⟨_, wpg_name (by decide), ev_sub (ev_ixI (ev_var rfl) (ev_var rfl) (List.mem_range.mp hk)) (ev_ixI (ev_ixLE (e := tI) (l := fits) (j := 0) (ev_var rfl) ev_int (by rw [hfe] <;> rfl)) (ev_var rfl) (by have := List.mem_range.mp hk; omega))⟩))) ⟨m, Nat.lt_succ_self m, lessM row1 f, _, rfl, ?_, hs⟩
          unfold lessM
          rw [List.length_map, List.length_range]
          exact hrl
    · rw [if_neg (by rw [hb]; exact Bool.false_ne_true)] at hs
      have hres : true = res := Option.some.inj hs
      refine wps_ret ev_bl ?_
      rwa [hres]
end
end K65

namespace K65
open PySem L2 DL
section
variable {P : Program} {w : World} {K : PySem.W.Frag} {mg : Str → Option Value} {base : Heap}
abbrev s__law_same : Stmt := top 22
abbrev N__law_same : List Str := ["one", "two", "k", "key"]
abbrev P__law_same : List Str := ["one", "two"]
theorem sc__law_same : FnScope N__law_same P__law_same (defScope s__law_same) := ⟨rfl, rfl, rfl, by decide +kernel, rfl, by decide +kernel, by decide +kernel⟩
/- 0:one 1:two 2:k 3:key -/
theorem all_eq {α : Type} [DecidableEq α] (x : α) : ∀ a b : List α, a.length = b.length → ((List.range a.length).map fun k => decide (a.getD k x = b.getD k x)).all id = decide (a = b)
  | [], [], _ => rfl
  | [], _ :: _, h => by simp at h
  | _ :: _, [], h => by simp at h
  | u :: a, v :: b, h => by
    have ih := all_eq x a b (by simpa using h)
    rw [List.length_cons, List.range_succ_eq_map, List.map_cons, List.map_map, List.all_cons]
    have : ((List.range a.length).map ((fun k => decide ((u :: a).getD k x = (v :: b).getD k x)) ∘ Nat.succ)).all id = decide (a = b) := ih
    rw [this]
    show (decide (u = v) && decide (a = b)) = _
    by_cases c : u = v
    · subst c
      simp
    · rw [decide_eq_false c, Bool.false_and]
      exact (decide_eq_false fun z => c (List.cons.inj z).1).symm
def S_same : Nat → List D → (D → Prop) → Prop
  | 0, ds, k => ∃ a b : Int, ds = [.int a, .int b] ∧ k (.bl (decide (a = b)))
  | 1, ds, k => ∃ a b : List Int, ds = [tI a, tI b] ∧ a.length ≤ 1000 ∧ k (.bl (decide (a = b)))
  | _, ds, k => ∃ a b : List (List Int), ds = [rowsD a, rowsD b] ∧ a.length ≤ 1000 ∧ (∀ r ∈ a, r.length ≤ 1000) ∧ k (.bl (decide (a = b)))
theorem same_step {k : Nat} {S' : List D → (D → Prop) → Prop} {f : Addr} {fd : FuncData} (F : Fun K "_law_same" "_law_same" s__law_same f fd) (T : Bl mg)
    (C__law_same : Cal P w K mg base (k + 1) "_law_same" P__law_same (spR S')) (n : Nat) (hn : n ≤ 2) (hS : ∀ m, n = m + 1 → ∀ ds kk, S_same m ds kk → S' ds kk) : FnOk P w K mg base CX0 (k + 2) f fd P__law_same (spR (S_same n)) := by
  refine fn_ok F sc__law_same (fun ds k h => ?_) (by decide) (fun cdv A outer s H E hr => ?_)
  · match n, h with
    | 0, ⟨_, _, e, _⟩ => rw [e] <;> rfl
    | 1, ⟨_, _, e, _⟩ => rw [e] <;> rfl
    | n + 2, ⟨_, _, e, _⟩ => rw [e] <;> rfl
  have hu := hu_of hr
  have hu64 := hu64_of hr
  refine ⟨_, (pss_cons (ps_if (PW.pt (pw_or (PW.pt (pw_and (DL.k_truth (K := K) rfl (pe_callB (id := "isinstance") (DL.k_isi (K := K) rfl) (by rfl) T.m_isinstance (by decide +kernel) (pa_cons (pv 0) (pa_cons (pe_bltn (v := .ty "tuple") (by rfl) T.m_tuple (by decide +kernel) rfl) pa_nil))) (by intro _; rfl)) (pw_and1 (DL.k_truth (K := K) rfl (pe_callB (id := "isinstance") (DL.k_isi (K := K) rfl) (by rfl) T.m_isinstance (by decide +kernel) (pa_cons (pv 1) (pa_cons (pe_bltn (v := .ty "tuple") (by rfl) T.m_tuple (by decide +kernel) rfl) pa_nil))) (by intro _; rfl))))) (pw_or1 (PW.pt (pw_and (DL.k_truth (K := K) rfl (pe_callB (id := "isinstance") (DL.k_isi (K := K) rfl) (by rfl) T.m_isinstance (by decide +kernel) (pa_cons (pv 0) (pa_cons (pe_bltn (v := .ty "list") (by rfl) T.m_list (by decide +kernel) rfl) pa_nil))) (by intro _; rfl)) (pw_and1 (DL.k_truth (K := K) rfl (pe_callB (id := "isinstance") (DL.k_isi (K := K) rfl) (by rfl) T.m_isinstance (by decide +kernel) (pa_cons (pv 1) (pa_cons (pe_bltn (v := .ty "list") (by rfl) T.m_list (by decide +kernel) rfl) pa_nil))) (by intro _; rfl))))))))
        (pss_one (ps_ret (pe_and (pe_cmpR (DL.k_eqD (K := K) rfl hu64) (pe_callB (id := "len") (DL.k_len (K := K) rfl) (by rfl) T.m_len (by decide +kernel) (pa_cons (pv 0) pa_nil)) (pe_callB (id := "len") (DL.k_len (K := K) rfl) (by rfl) T.m_len (by decide +kernel) (pa_cons (pv 1) pa_nil)) (nomark _)) (pe_one (pe_callB (id := "all") (DL.k_all (K := K) rfl rfl) (by rfl) T.m_all (by decide +kernel) (pa_cons (pe_lc (own := [("k", 2)]) (g := (gName 2)) (tt := tYes) rfl sc__law_same.nd (pi_range1 (by rfl) T.m_range (pa_cons (pe_callB (id := "len") (DL.k_len (K := K) rfl) (by rfl) T.m_len (by decide +kernel) (pa_cons (pv 0) pa_nil)) pa_nil)) (blkOk_by (own := [("k", 2)]) (N := N__law_same) (sc := defScope s__law_same) (by decide +kernel)) (fun _ _ _ _ _ => by exact (pg_name (i := 2) sc__law_same.nd rfl (by first | exact Or.inl rfl | exact Or.inr rfl))) (fun _ _ _ _ _ => by exact pts_nil) (fun _ _ _ _ _ => by exact (DL.pe_cal C__law_same (hr.mono (by first | decide | omega)) (by rfl) (pa_cons (pe_ix (DL.k_ixS (K := K) rfl) (pv 0) (pv 2) (fun _ _ => rfl)) (pa_cons (pe_ix (DL.k_ixS (K := K) rfl) (pv 1) (pv 2) (fun _ _ => rfl)) pa_nil))))) pa_nil))))))
        pss_nil)
      (pss_cons (ps_if (PW.pt (pw_and (DL.k_truth (K := K) rfl (pe_callB (id := "isinstance") (DL.k_isi (K := K) rfl) (by rfl) T.m_isinstance (by decide +kernel) (pa_cons (pv 0) (pa_cons (pe_bltn (v := .ty "dict") (by rfl) T.m_dict (by decide +kernel) rfl) pa_nil))) (by intro _; rfl)) (pw_and1 (DL.k_truth (K := K) rfl (pe_callB (id := "isinstance") (DL.k_isi (K := K) rfl) (by rfl) T.m_isinstance (by decide +kernel) (pa_cons (pv 1) (pa_cons (pe_bltn (v := .ty "dict") (by rfl) T.m_dict (by decide +kernel) rfl) pa_nil))) (by intro _; rfl)))))
        (pss_one (ps_ret (pe_and (pe_cmpR (DL.k_eqD (K := K) rfl hu64) (pe_callB (id := "len") (DL.k_len (K := K) rfl) (by rfl) T.m_len (by decide +kernel) (pa_cons (pv 0) pa_nil)) (pe_callB (id := "len") (DL.k_len (K := K) rfl) (by rfl) T.m_len (by decide +kernel) (pa_cons (pv 1) pa_nil)) (nomark _)) (pe_one (pe_callB (id := "all") (DL.k_all (K := K) rfl rfl) (by rfl) T.m_all (by decide +kernel) (pa_cons (pe_lc (own := [("key", 3)]) (g := (gName 3)) (tt := tYes) rfl sc__law_same.nd (pi_keys (pv 0)) (blkOk_by (own := [("key", 3)]) (N := N__law_same) (sc := defScope s__law_same) (by decide +kernel)) (fun _ _ _ _ _ => by exact (pg_name (i := 3) sc__law_same.nd rfl (by first | exact Or.inl rfl | exact Or.inr rfl))) (fun _ _ _ _ _ => by exact pts_nil) (fun _ _ _ _ _ => by exact (pe_and (pe_cmp (pc_din hu (pv 3) (pv 1)) rfl) (pe_one (DL.pe_cal C__law_same (hr.mono (by first | decide | omega)) (by rfl) (pa_cons (pe_dget hu (pv 0) (pv 3) (fun _ _ => rfl)) (pa_cons (pe_dget hu (pv 1) (pv 3) (fun _ _ => rfl)) pa_nil))))))) pa_nil))))))
        pss_nil)
      (pss_cons (ps_if (PW.pt (pw_or (PW.pt (pw_and (DL.k_truth (K := K) rfl (pe_callB (id := "isinstance") (DL.k_isi (K := K) rfl) (by rfl) T.m_isinstance (by decide +kernel) (pa_cons (pv 0) (pa_cons (pe_bltn (v := .ty "str") (by rfl) T.m_str (by decide +kernel) rfl) pa_nil))) (by intro _; rfl)) (pw_and1 (DL.k_truth (K := K) rfl (pe_callB (id := "isinstance") (DL.k_isi (K := K) rfl) (by rfl) T.m_isinstance (by decide +kernel) (pa_cons (pv 1) (pa_cons (pe_bltn (v := .ty "str") (by rfl) T.m_str (by decide +kernel) rfl) pa_nil))) (by intro _; rfl))))) (pw_or1 (PW.pt (pw_and (pt_cmp (pc_isN (pv 0)) rfl) (pw_and1 (pt_cmp (pc_isN (pv 1)) rfl)))))))
        (pss_one (ps_ret (pe_cmpR (DL.k_eqD (K := K) rfl hu64) (pv 0) (pv 1) (nomark _))))
        pss_nil)
      (pss_cons (ps_if (PW.pt (pw_or (pt_not (DL.k_truth (K := K) rfl (pe_callB (id := "isinstance") (DL.k_isi (K := K) rfl) (by rfl) T.m_isinstance (by decide +kernel) (pa_cons (pv 0) (pa_cons (pe_bltn (v := .ty "int") (by rfl) T.m_int (by decide +kernel) rfl) pa_nil))) (by intro _; rfl))) (pw_or1 (pt_not (DL.k_truth (K := K) rfl (pe_callB (id := "isinstance") (DL.k_isi (K := K) rfl) (by rfl) T.m_isinstance (by decide +kernel) (pa_cons (pv 1) (pa_cons (pe_bltn (v := .ty "int") (by rfl) T.m_int (by decide +kernel) rfl) pa_nil))) (by intro _; rfl))))))
        (pss_one (ps_ret pe_bl))
        pss_nil)
      (pss_one (ps_ret (pe_and (pe_cmpR (DL.k_eqD (K := K) rfl hu64) (pv 0) (pv 1) (nomark _)) (pe_one (pe_cmpR (DL.k_eqD (K := K) rfl hu64) (pe_callB (id := "isinstance") (DL.k_isi (K := K) rfl) (by rfl) T.m_isinstance (by decide +kernel) (pa_cons (pv 0) (pa_cons (pe_bltn (v := .ty "bool") (by rfl) T.m_bool (by decide +kernel) rfl) pa_nil))) (pe_callB (id := "isinstance") (DL.k_isi (K := K) rfl) (by rfl) T.m_isinstance (by decide +kernel) (pa_cons (pv 1) (pa_cons (pe_bltn (v := .ty "bool") (by rfl) T.m_bool (by decide +kernel) rfl) pa_nil))) (nomark _)))))))))), fun ds k h => ?_⟩
  match n, hn, hS, h with
  | 0, _, _, ⟨a, b, e, hk⟩ =>
    subst e
    refine wps_seq (wps_if (b := false) (et_or (a := false) (b := false) (et_and (a := false) (b := true) (ev_truB (ev_isi (ev_var rfl) (hk := isi_it K))) (fun z => nomatch z)) (fun _ => et_and (a := false) (b := true) (ev_truB (ev_isi (ev_var rfl) (hk := isi_il K))) (fun z => nomatch z))) (fun z => nomatch z) (fun _ => wps_next ?_))
    refine wps_seq (wps_if (b := false) (et_and (a := false) (b := true) (ev_truB (ev_isi (ev_var rfl) (hk := isi_id K))) (fun z => nomatch z)) (fun z => nomatch z) (fun _ => wps_next ?_))
    refine wps_seq (wps_if (b := false) (et_or (a := false) (b := false) (et_and (a := false) (b := true) (ev_truB (ev_isi (ev_var rfl) (hk := isi_is K))) (fun z => nomatch z)) (fun _ => et_and (a := false) (b := true) (et_test (ev_is (ev_isN (d := .int a) (ev_var rfl)) rfl)) (fun z => nomatch z))) (fun z => nomatch z) (fun _ => wps_next ?_))
    refine wps_seq (wps_if (b := false) (et_or (a := !true) (b := !true) (et_not (ev_truB (ev_isi (ev_var rfl) (hk := isi_ii K)))) (fun _ => et_not (ev_truB (ev_isi (ev_var rfl) (hk := isi_ii K))))) (fun z => nomatch z) (fun _ => wps_next ?_))
    refine wps_ret (ev_is (ev_andV (ev_eqI (ev_var rfl) (ev_var rfl)) fun _ => ev_op (ev_isi (ev_var rfl) (hk := isi_ib K)) (ev_isi (ev_var rfl) (hk := isi_ib K)) (ro_eqD (n := 0) rfl rfl)) ?_) hk
    show D.bl (decide (a = b) && true) = _
    rw [Bool.and_true]
  | 1, _, hS, ⟨a, b, e, hl, hk⟩ =>
    subst e
    refine wps_seq (wps_if (b := true) (et_or (a := true) (b := true) (et_and (a := true) (b := true) (ev_truB (ev_isi (ev_var rfl) (hk := isi_tt K))) (fun _ => ev_truB (ev_isi (ev_var rfl) (hk := isi_tt K)))) (fun z => nomatch z)) (fun _ => ?_) (fun z => nomatch z))
    refine wps_ret (ev_is (ev_andV (ev_eqI (ev_len (ev_var rfl) (len_tI a)) (ev_len (ev_var rfl) (len_tI b))) fun h => ev_all (EvN.ev (evN_lcE (xs := List.range a.length) (e := fun (i : Nat) => D.int (i : Int)) D.bl (fun j => decide (a.getD j 0 = b.getD j 0)) (ei_rngN (ea_cons (ev_len (ev_var rfl) (len_tI a)) ea_nil) (by omega)) (by rw [List.length_range]; omega) fun j hj =>
      ⟨_, wpg_name (by decide), ev_call (d := .bl (decide (a.getD j 0 = b.getD j 0))) (ea_cons (ev_op (d := .int (a.getD j 0)) (ev_var rfl) (ev_var rfl) (ro_ixST (atI_nat' (get_map (get_lt (List.mem_range.mp hj)))))) (ea_cons (ev_op (d := .int (b.getD j 0)) (ev_var rfl) (ev_var rfl) (ro_ixST (atI_nat' (get_map (get_lt (by have := of_decide_eq_true h; have := List.mem_range.mp hj; omega)))))) ea_nil)) fun k hk => hS 0 rfl _ _ ⟨_, _, rfl, hk⟩⟩))) ?_) hk
    by_cases c : a.length = b.length
    · rw [all_eq 0 a b c, decide_eq_true (by omega), Bool.true_and]
    · rw [decide_eq_false (by omega), Bool.false_and, decide_eq_false (fun z => c (by rw [z]))]
  | n + 2, hn, hS, ⟨a, b, e, hl, hl2, hk⟩ =>
    subst e
    have hn0 : n = 0 := by omega
    subst hn0
    refine wps_seq (wps_if (b := true) (et_or (a := false) (b := true) (et_and (a := false) (b := true) (ev_truB (ev_isi (ev_var rfl) (hk := isi_lt K))) (fun z => nomatch z)) (fun _ => et_and (a := true) (b := true) (ev_truB (ev_isi (ev_var rfl) (hk := isi_ll K))) (fun _ => ev_truB (ev_isi (ev_var rfl) (hk := isi_ll K))))) (fun _ => ?_) (fun z => nomatch z))
    refine wps_ret (ev_is (ev_andV (ev_eqI (ev_len (ev_var rfl) (len_map tI a)) (ev_len (ev_var rfl) (len_map tI b))) fun h => ev_all (EvN.ev (evN_lcE (xs := List.range a.length) (e := fun (i : Nat) => D.int (i : Int)) D.bl (fun j => decide (a.getD j [] = b.getD j [])) (ei_rngN (ea_cons (ev_len (ev_var rfl) (len_map tI a)) ea_nil) (by omega)) (by rw [List.length_range]; omega) fun j hj =>
      ⟨_, wpg_name (by decide), ev_call (d := .bl (decide (a.getD j [] = b.getD j []))) (ea_cons (ev_op (d := tI (a.getD j [])) (ev_var rfl) (ev_var rfl) (ro_ixSL (atI_nat' (get_map (get_lt (List.mem_range.mp hj)))))) (ea_cons (ev_op (d := tI (b.getD j [])) (ev_var rfl) (ev_var rfl) (ro_ixSL (atI_nat' (get_map (get_lt (by have := of_decide_eq_true h; have := List.mem_range.mp hj; omega)))))) ea_nil)) fun k hk => hS 1 rfl _ _ ⟨_, _, rfl, hl2 _ (List.mem_of_getElem? (get_lt (List.mem_range.mp hj))), hk⟩⟩))) ?_) hk
    by_cases c : a.length = b.length
    · rw [all_eq [] a b c, decide_eq_true (by omega), Bool.true_and]
    · rw [decide_eq_false (by omega), Bool.false_and, decide_eq_false (fun z => c (by rw [z]))]
theorem ok_same {f : Addr} {fd : FuncData} (F : Fun K "_law_same" "_law_same" s__law_same f fd) (T : Bl mg) (hmg : mg "_law_same" = some (.ref f)) (hkp : PySem.W.keepIn K (.ref f) = true) (hbi : Binds K fd P__law_same []) : FnOk P w K mg base CX0 4 f fd P__law_same (spR (S_same 2)) := by
  have h0 : FnOk P w K mg base CX0 2 f fd P__law_same (spR (S_same 0)) := same_step F T (S' := fun _ _ => False) (Cal.mk' (F.ok sc__law_same (fun vs H Q E ⟨_, _, _, _, z⟩ => z.elim) (fun cdv A outer s H vs Q E hr ⟨_, _, _, _, z⟩ => z.elim)) hmg hkp hbi) 0 (by decide) (fun m e => nomatch e)
  have h1 : FnOk P w K mg base CX0 3 f fd P__law_same (spR (S_same 1)) := same_step F T (Cal.mk' h0 hmg hkp hbi) 1 (by decide) (fun m e ds kk h => by cases e; exact h)
  exact same_step F T (Cal.mk' h1 hmg hkp hbi) 2 (by decide) (fun m e ds kk h => by cases e; exact h)
end
end K65

/-! k65: the plain law, over the finitely many draws -/
namespace K65
open PySem L2 DL
def solvedM (l r : List Int) : List (List Int) := (allM 3 (l.length + r.length)).filter fun row => evenM l r row && row.any (· != 0)
def dueM (solved : List (List Int)) : List (List Int) := solved.filter fun row => !(solved.map fun one => !decide (one = row) && underL one row).any id
def checkLR (l r : List Int) : Bool := match leastM l r, leastM r l with
  | some told, some turned => decide (told.length ≤ 1000) && decide (turned.length ≤ 1000) && !told.isEmpty && decide (told = dueM (solvedM l r)) && decide (isort leRow (turned.map (turnM r.length)) = told) && (solvedM l r).all (fun row => decide (sumL told 64 row = some true)) && told.all (evenM l r)
  | _, _ => false
def sides : List (List Int) := [1, 2, 3].map (fun a => [a]) ++ ([1, 2, 3].map fun a => [1, 2, 3].map fun b => [a, b]).flatten
def knowns : List (List Int) := [[], [0], [1], [0, 0], [0, 1], [1, 0], [1, 1]]
/-- one bag of the law's own filling: the columns behind the known ones in turn on two places -/
def bagStep (n : Nat) (row bag : List Int) (k : Nat) : List Int := bag.set (n + k % 2) (bag.getD (n + k % 2) 0 + row.getD (n + k) 0)
def bagM (n : Nat) (row : List Int) : List Int := (List.range (row.length - n)).foldl (bagStep n row) (row.take n ++ [0, 0])
def wholeOk (x y : Int) (known : List Int) (whole : List (List Int)) : Bool :=
  let n := known.length
  let bags := whole.map (bagM n)
  let m := (whole.getD 0 []).length
  !whole.isEmpty && decide (whole.length ≤ 100) && decide (n ≤ m) && decide (m ≤ n + 1) && whole.all (fun row => decide (row.length = m)) && decide (isSolM [x] known [y] [] bags = some true) &&
    (!decide (maxL (bags.map maxL) < 7) || decide (comesM whole bags n = some true))
def checkSol (x y : Int) (known : List Int) : Bool := match solM [x] known [y] [] with
  | some general => decide (general.length ≤ 1000) && (general.take 6).all (wholeOk x y known)
  | none => false
theorem lr0_0 : ([[1], [2], [3]].all fun r => checkLR [1] r) = true := by decide +kernel
theorem lr0_3 : ([[1, 1], [1, 2], [1, 3]].all fun r => checkLR [1] r) = true := by decide +kernel
theorem lr0_6 : ([[2, 1], [2, 2], [2, 3]].all fun r => checkLR [1] r) = true := by decide +kernel
theorem lr0_9 : ([[3, 1], [3, 2], [3, 3]].all fun r => checkLR [1] r) = true := by decide +kernel
theorem lr0 : (sides.all fun r => checkLR [1] r) = true := by
  have e : sides = [[1], [2], [3]] ++ ([[1, 1], [1, 2], [1, 3]] ++ ([[2, 1], [2, 2], [2, 3]] ++ [[3, 1], [3, 2], [3, 3]])) := by decide +kernel
  rw [e, List.all_append, List.all_append, List.all_append, lr0_0, lr0_3, lr0_6, lr0_9]
  rfl
theorem lr1_0 : ([[1], [2], [3]].all fun r => checkLR [2] r) = true := by decide +kernel
theorem lr1_3 : ([[1, 1], [1, 2], [1, 3]].all fun r => checkLR [2] r) = true := by decide +kernel
theorem lr1_6 : ([[2, 1], [2, 2], [2, 3]].all fun r => checkLR [2] r) = true := by decide +kernel
theorem lr1_9 : ([[3, 1], [3, 2], [3, 3]].all fun r => checkLR [2] r) = true := by decide +kernel
theorem lr1 : (sides.all fun r => checkLR [2] r) = true := by
  have e : sides = [[1], [2], [3]] ++ ([[1, 1], [1, 2], [1, 3]] ++ ([[2, 1], [2, 2], [2, 3]] ++ [[3, 1], [3, 2], [3, 3]])) := by decide +kernel
  rw [e, List.all_append, List.all_append, List.all_append, lr1_0, lr1_3, lr1_6, lr1_9]
  rfl
theorem lr2_0 : ([[1], [2], [3]].all fun r => checkLR [3] r) = true := by decide +kernel
theorem lr2_3 : ([[1, 1], [1, 2], [1, 3]].all fun r => checkLR [3] r) = true := by decide +kernel
theorem lr2_6 : ([[2, 1], [2, 2], [2, 3]].all fun r => checkLR [3] r) = true := by decide +kernel
theorem lr2_9 : ([[3, 1], [3, 2], [3, 3]].all fun r => checkLR [3] r) = true := by decide +kernel
theorem lr2 : (sides.all fun r => checkLR [3] r) = true := by
  have e : sides = [[1], [2], [3]] ++ ([[1, 1], [1, 2], [1, 3]] ++ ([[2, 1], [2, 2], [2, 3]] ++ [[3, 1], [3, 2], [3, 3]])) := by decide +kernel
  rw [e, List.all_append, List.all_append, List.all_append, lr2_0, lr2_3, lr2_6, lr2_9]
  rfl
theorem lr3_0 : ([[1], [2], [3]].all fun r => checkLR [1, 1] r) = true := by decide +kernel
theorem lr3_3 : ([[1, 1], [1, 2], [1, 3]].all fun r => checkLR [1, 1] r) = true := by decide +kernel
theorem lr3_6 : ([[2, 1], [2, 2], [2, 3]].all fun r => checkLR [1, 1] r) = true := by decide +kernel
theorem lr3_9 : ([[3, 1], [3, 2], [3, 3]].all fun r => checkLR [1, 1] r) = true := by decide +kernel
theorem lr3 : (sides.all fun r => checkLR [1, 1] r) = true := by
  have e : sides = [[1], [2], [3]] ++ ([[1, 1], [1, 2], [1, 3]] ++ ([[2, 1], [2, 2], [2, 3]] ++ [[3, 1], [3, 2], [3, 3]])) := by decide +kernel
  rw [e, List.all_append, List.all_append, List.all_append, lr3_0, lr3_3, lr3_6, lr3_9]
  rfl
theorem lr4_0 : ([[1], [2], [3]].all fun r => checkLR [1, 2] r) = true := by decide +kernel
theorem lr4_3 : ([[1, 1], [1, 2], [1, 3]].all fun r => checkLR [1, 2] r) = true := by decide +kernel
theorem lr4_6 : ([[2, 1], [2, 2], [2, 3]].all fun r => checkLR [1, 2] r) = true := by decide +kernel
theorem lr4_9 : ([[3, 1], [3, 2], [3, 3]].all fun r => checkLR [1, 2] r) = true := by decide +kernel
theorem lr4 : (sides.all fun r => checkLR [1, 2] r) = true := by
  have e : sides = [[1], [2], [3]] ++ ([[1, 1], [1, 2], [1, 3]] ++ ([[2, 1], [2, 2], [2, 3]] ++ [[3, 1], [3, 2], [3, 3]])) := by decide +kernel
  rw [e, List.all_append, List.all_append, List.all_append, lr4_0, lr4_3, lr4_6, lr4_9]
  rfl
theorem lr5_0 : ([[1], [2], [3]].all fun r => checkLR [1, 3] r) = true := by decide +kernel
theorem lr5_3 : ([[1, 1], [1, 2], [1, 3]].all fun r => checkLR [1, 3] r) = true := by decide +kernel
theorem lr5_6 : ([[2, 1], [2, 2], [2, 3]].all fun r => checkLR [1, 3] r) = true := by decide +kernel
theorem lr5_9 : ([[3, 1], [3, 2], [3, 3]].all fun r => checkLR [1, 3] r) = true := by decide +kernel
theorem lr5 : (sides.all fun r => checkLR [1, 3] r) = true := by
  have e : sides = [[1], [2], [3]] ++ ([[1, 1], [1, 2], [1, 3]] ++ ([[2, 1], [2, 2], [2, 3]] ++ [[3, 1], [3, 2], [3, 3]])) := by decide +kernel
  rw [e, List.all_append, List.all_append, List.all_append, lr5_0, lr5_3, lr5_6, lr5_9]
  rfl
theorem lr6_0 : ([[1], [2], [3]].all fun r => checkLR [2, 1] r) = true := by decide +kernel
theorem lr6_3 : ([[1, 1], [1, 2], [1, 3]].all fun r => checkLR [2, 1] r) = true := by decide +kernel
theorem lr6_6 : ([[2, 1], [2, 2], [2, 3]].all fun r => checkLR [2, 1] r) = true := by decide +kernel
theorem lr6_9 : ([[3, 1], [3, 2], [3, 3]].all fun r => checkLR [2, 1] r) = true := by decide +kernel
theorem lr6 : (sides.all fun r => checkLR [2, 1] r) = true := by
  have e : sides = [[1], [2], [3]] ++ ([[1, 1], [1, 2], [1, 3]] ++ ([[2, 1], [2, 2], [2, 3]] ++ [[3, 1], [3, 2], [3, 3]])) := by decide +kernel
  rw [e, List.all_append, List.all_append, List.all_append, lr6_0, lr6_3, lr6_6, lr6_9]
  rfl
theorem lr7_0 : ([[1], [2], [3]].all fun r => checkLR [2, 2] r) = true := by decide +kernel
theorem lr7_3 : ([[1, 1], [1, 2], [1, 3]].all fun r => checkLR [2, 2] r) = true := by decide +kernel
theorem lr7_6 : ([[2, 1], [2, 2], [2, 3]].all fun r => checkLR [2, 2] r) = true := by decide +kernel
theorem lr7_9 : ([[3, 1], [3, 2], [3, 3]].all fun r => checkLR [2, 2] r) = true := by decide +kernel
theorem lr7 : (sides.all fun r => checkLR [2, 2] r) = true := by
  have e : sides = [[1], [2], [3]] ++ ([[1, 1], [1, 2], [1, 3]] ++ ([[2, 1], [2, 2], [2, 3]] ++ [[3, 1], [3, 2], [3, 3]])) := by decide +kernel
  rw [e, List.all_append, List.all_append, List.all_append, lr7_0, lr7_3, lr7_6, lr7_9]
  rfl
theorem lr8_0 : ([[1], [2], [3]].all fun r => checkLR [2, 3] r) = true := by decide +kernel
theorem lr8_3 : ([[1, 1], [1, 2], [1, 3]].all fun r => checkLR [2, 3] r) = true := by decide +kernel
theorem lr8_6 : ([[2, 1], [2, 2], [2, 3]].all fun r => checkLR [2, 3] r) = true := by decide +kernel
theorem lr8_9 : ([[3, 1], [3, 2], [3, 3]].all fun r => checkLR [2, 3] r) = true := by decide +kernel
theorem lr8 : (sides.all fun r => checkLR [2, 3] r) = true := by
  have e : sides = [[1], [2], [3]] ++ ([[1, 1], [1, 2], [1, 3]] ++ ([[2, 1], [2, 2], [2, 3]] ++ [[3, 1], [3, 2], [3, 3]])) := by decide +kernel
  rw [e, List.all_append, List.all_append, List.all_append, lr8_0, lr8_3, lr8_6, lr8_9]
  rfl
theorem lr9_0 : ([[1], [2], [3]].all fun r => checkLR [3, 1] r) = true := by decide +kernel
theorem lr9_3 : ([[1, 1], [1, 2], [1, 3]].all fun r => checkLR [3, 1] r) = true := by decide +kernel
theorem lr9_6 : ([[2, 1], [2, 2], [2, 3]].all fun r => checkLR [3, 1] r) = true := by decide +kernel
theorem lr9_9 : ([[3, 1], [3, 2], [3, 3]].all fun r => checkLR [3, 1] r) = true := by decide +kernel
theorem lr9 : (sides.all fun r => checkLR [3, 1] r) = true := by
  have e : sides = [[1], [2], [3]] ++ ([[1, 1], [1, 2], [1, 3]] ++ ([[2, 1], [2, 2], [2, 3]] ++ [[3, 1], [3, 2], [3, 3]])) := by decide +kernel
  rw [e, List.all_append, List.all_append, List.all_append, lr9_0, lr9_3, lr9_6, lr9_9]
  rfl
theorem lr10_0 : ([[1], [2], [3]].all fun r => checkLR [3, 2] r) = true := by decide +kernel
theorem lr10_3 : ([[1, 1], [1, 2], [1, 3]].all fun r => checkLR [3, 2] r) = true := by decide +kernel
theorem lr10_6 : ([[2, 1], [2, 2], [2, 3]].all fun r => checkLR [3, 2] r) = true := by decide +kernel
theorem lr10_9 : ([[3, 1], [3, 2], [3, 3]].all fun r => checkLR [3, 2] r) = true := by decide +kernel
theorem lr10 : (sides.all fun r => checkLR [3, 2] r) = true := by
  have e : sides = [[1], [2], [3]] ++ ([[1, 1], [1, 2], [1, 3]] ++ ([[2, 1], [2, 2], [2, 3]] ++ [[3, 1], [3, 2], [3, 3]])) := by decide +kernel
  rw [e, List.all_append, List.all_append, List.all_append, lr10_0, lr10_3, lr10_6, lr10_9]
  rfl
theorem lr11_0 : ([[1], [2], [3]].all fun r => checkLR [3, 3] r) = true := by decide +kernel
theorem lr11_3 : ([[1, 1], [1, 2], [1, 3]].all fun r => checkLR [3, 3] r) = true := by decide +kernel
theorem lr11_6 : ([[2, 1], [2, 2], [2, 3]].all fun r => checkLR [3, 3] r) = true := by decide +kernel
theorem lr11_9 : ([[3, 1], [3, 2], [3, 3]].all fun r => checkLR [3, 3] r) = true := by decide +kernel
theorem lr11 : (sides.all fun r => checkLR [3, 3] r) = true := by
  have e : sides = [[1], [2], [3]] ++ ([[1, 1], [1, 2], [1, 3]] ++ ([[2, 1], [2, 2], [2, 3]] ++ [[3, 1], [3, 2], [3, 3]])) := by decide +kernel
  rw [e, List.all_append, List.all_append, List.all_append, lr11_0, lr11_3, lr11_6, lr11_9]
  rfl
theorem all_nil {α : Type} (p : α → Bool) : ([] : List α).all p = true := rfl
theorem all_two {α : Type} {p : α → Bool} {a : α} {l : List α} (h : p a = true) (k : l.all p = true) : (a :: l).all p = true := by
  rw [List.all_cons, h, k]
  rfl
theorem facts_LR : (sides.all fun l => sides.all fun r => checkLR l r) = true := by
  have e : sides = [[1], [2], [3], [1, 1], [1, 2], [1, 3], [2, 1], [2, 2], [2, 3], [3, 1], [3, 2], [3, 3]] := by decide +kernel
  have h : ([[1], [2], [3], [1, 1], [1, 2], [1, 3], [2, 1], [2, 2], [2, 3], [3, 1], [3, 2], [3, 3]].all fun l => sides.all fun r => checkLR l r) = true := all_two lr0 (all_two lr1 (all_two lr2 (all_two lr3 (all_two lr4 (all_two lr5 (all_two lr6 (all_two lr7 (all_two lr8 (all_two lr9 (all_two lr10 (all_two lr11 (all_nil _))))))))))))
  rw [← e] at h
  exact h
theorem sol11 : (knowns.all fun k => checkSol 1 1 k) = true := by decide +kernel
theorem sol12 : (knowns.all fun k => checkSol 1 2 k) = true := by decide +kernel
theorem sol13 : (knowns.all fun k => checkSol 1 3 k) = true := by decide +kernel
theorem sol21 : (knowns.all fun k => checkSol 2 1 k) = true := by decide +kernel
theorem sol22 : (knowns.all fun k => checkSol 2 2 k) = true := by decide +kernel
theorem sol23 : (knowns.all fun k => checkSol 2 3 k) = true := by decide +kernel
theorem sol31 : (knowns.all fun k => checkSol 3 1 k) = true := by decide +kernel
theorem sol32 : (knowns.all fun k => checkSol 3 2 k) = true := by decide +kernel
theorem sol33 : (knowns.all fun k => checkSol 3 3 k) = true := by decide +kernel
theorem facts_sol : ([1, 2, 3].all fun x => [1, 2, 3].all fun y => knowns.all fun k => checkSol x y k) = true :=
  all_two (all_two sol11 (all_two sol12 (all_two sol13 (all_nil _)))) (all_two (all_two sol21 (all_two sol22 (all_two sol23 (all_nil _)))) (all_two (all_two sol31 (all_two sol32 (all_two sol33 (all_nil _)))) (all_nil _)))
end K65

namespace K65
open PySem L2 DL
section
variable {P : Program} {w : World} {K : PySem.W.Frag} {mg : Str → Option Value} {base : Heap}
abbrev s__law_stream : Stmt := top 19
abbrev N__law_stream : List Str := ["script", "mixed", "cell"]
abbrev P__law_stream : List Str := ["script"]
theorem sc__law_stream : FnScope N__law_stream P__law_stream (defScope s__law_stream) := ⟨rfl, rfl, rfl, by decide +kernel, rfl, by decide +kernel, by decide +kernel⟩
/- 0:script 1:mixed 2:cell -/
theorem ok_law_stream {f : Addr} {fd : FuncData} (F : Fun K "_law_stream" "_law_stream" s__law_stream f fd) (T : Bl mg) : FnOk P w K mg base CX0 1 f fd P__law_stream (spStream K) := by
  refine F.ok sc__law_stream (fun vs H Q E h => ?_) (fun cdv A outer s H vs Q E hr h => ?_)
  · obtain ⟨_, _, rfl, _⟩ := h
    rfl
  · obtain ⟨a, ns, rfl, hS, hl, q⟩ := h
    have hu64 := hu64_of hr
    exact ⟨_, (pss_cons (ps_set (i := 1) sc__law_stream.nd rfl (by first | exact Or.inl rfl | exact Or.inr rfl) pe_int)
      (pss_cons (ps_for PassesOwn.never rfl (DL.k_list (K := K) rfl (pv 0)) (pg_name (i := 2) sc__law_stream.nd rfl (by first | exact Or.inl rfl | exact Or.inr rfl))
        (pss_one (ps_set (i := 1) sc__law_stream.nd rfl (by first | exact Or.inl rfl | exact Or.inr rfl) (pe_op op_modN (pe_callTy (T := "int") call_int1 (by rfl) T.m_int (by decide +kernel) (pa_cons (pe_op op_add (pe_op op_add (pe_op op_mul (pv 1) pe_int) (pe_op op_modN (pe_callTy (T := "int") call_int1 (by rfl) T.m_int (by decide +kernel) (pa_cons (pv 2) pa_nil)) pe_int)) pe_int) pa_nil)) pe_int))))
      (pss_one (ps_ret (pe_lst (pa_cons (pe_callTy (T := "list") (DL.k_listOf (K := K) rfl) (by rfl) T.m_list (by decide +kernel) (pa_cons (pv 0) pa_nil)) (pa_cons pe_int (pa_cons pe_int (pa_cons (pv 1) pa_nil))))))))), stream_walk hS hl (fun m c => ⟨_, ev_fmod (ev_cb (ea_cons (ev_add (ev_add (ev_mul (ev_var rfl) ev_int (.inr (by decide))) (ev_fmod (ev_cb (ea_cons (ev_var rfl) ea_nil) rc_intI) ev_int (by decide))) ev_int) ea_nil) rc_intI) ev_int (by decide)⟩)
      (fun H a ys Q h q => ⟨a, ys, rfl, .inl h, q⟩) fun H1 l p m ex h1 h2 => q H1 l p m ex h1 h2⟩
/-! ### what the finite facts say -/
theorem lr_facts {l r : List Int} (hl : l ∈ sides) (hr : r ∈ sides) : ∃ told turned, leastM l r = some told ∧ leastM r l = some turned ∧ told.length ≤ 1000 ∧ turned.length ≤ 1000 ∧ told ≠ [] ∧ told = dueM (solvedM l r) ∧ isort leRow (turned.map (turnM r.length)) = told ∧
    (∀ row ∈ solvedM l r, sumL told 64 row = some true) ∧ ∀ row ∈ told, evenM l r row = true := by
  have h := List.all_eq_true.mp (List.all_eq_true.mp facts_LR l hl) r hr
  unfold checkLR at h
  split at h
  case h_2 => cases h
  case h_1 told turned e1 e2 =>
    simp only [Bool.and_eq_true, decide_eq_true_eq, List.all_eq_true, Bool.not_eq_true'] at h
    obtain ⟨⟨⟨⟨⟨⟨h1, h2⟩, h3⟩, h4⟩, h5⟩, h6⟩, h7⟩ := h
    exact ⟨told, turned, e1, e2, h1, h2, (fun z => by rw [z] at h3; cases h3), h4, h5, h6, h7⟩
theorem mem_sides {vs : List Int} (h1 : 1 ≤ vs.length) (h2 : vs.length ≤ 2) (h : ∀ v ∈ vs, 1 ≤ v ∧ v ≤ 3) : vs ∈ sides := by
  match vs, h1, h2, h with
  | [a], _, _, h =>
    have ha := h a (by simp)
    have : a = 1 ∨ a = 2 ∨ a = 3 := by omega
    rcases this with rfl | rfl | rfl <;> decide
  | [a, b], _, _, h =>
    have ha := h a (by simp)
    have hb := h b (by simp)
    have h1 : a = 1 ∨ a = 2 ∨ a = 3 := by omega
    have h2 : b = 1 ∨ b = 2 ∨ b = 3 := by omega
    rcases h1 with rfl | rfl | rfl <;> rcases h2 with rfl | rfl | rfl <;> decide
  | _ :: _ :: _ :: _, _, h2, _ => simp at h2
  | [], h1, _, _ => simp at h1
theorem mem_knowns {vs : List Int} (h2 : vs.length ≤ 2) (h : ∀ v ∈ vs, 0 ≤ v ∧ v < 2) : vs ∈ knowns := by
  match vs, h2, h with
  | [], _, _ => decide
  | [a], _, h =>
    have ha := h a (by simp)
    have : a = 0 ∨ a = 1 := by omega
    rcases this with rfl | rfl <;> decide
  | [a, b], _, h =>
    have ha := h a (by simp)
    have hb := h b (by simp)
    have h1 : a = 0 ∨ a = 1 := by omega
    have h2 : b = 0 ∨ b = 1 := by omega
    rcases h1 with rfl | rfl <;> rcases h2 with rfl | rfl <;> decide
  | _ :: _ :: _ :: _, h2, _ => simp at h2
theorem sol_facts {x y : Int} {known : List Int} (hx : 1 ≤ x ∧ x ≤ 3) (hy : 1 ≤ y ∧ y ≤ 3) (hk : known ∈ knowns) : ∃ general, solM [x] known [y] [] = some general ∧ general.length ≤ 1000 ∧ ∀ whole ∈ general.take 6, wholeOk x y known whole = true := by
  have mx : x ∈ [1, 2, 3] := by
    have : x = 1 ∨ x = 2 ∨ x = 3 := by omega
    rcases this with rfl | rfl | rfl <;> decide
  have my : y ∈ [1, 2, 3] := by
    have : y = 1 ∨ y = 2 ∨ y = 3 := by omega
    rcases this with rfl | rfl | rfl <;> decide
  have h := List.all_eq_true.mp (List.all_eq_true.mp (List.all_eq_true.mp facts_sol x mx) y my) known hk
  unfold checkSol at h
  split at h
  case h_2 => cases h
  case h_1 general e =>
    simp only [Bool.and_eq_true, decide_eq_true_eq, List.all_eq_true] at h
    exact ⟨general, e, h.1, h.2⟩
/-! ### sums of even rows are even -/
theorem sum_add (xs : List Nat) (g h : Nat → Int) : (xs.map fun k => g k + h k).sum = (xs.map g).sum + (xs.map h).sum := by
  induction xs with
  | nil => rfl
  | cons x xs ih => simp only [List.map_cons, List.sum_cons, ih]; omega
def addM (a b : List Int) : List Int := (List.range a.length).map fun j => a.getD j 0 + b.getD j 0
theorem addM_get {a b : List Int} {k : Nat} (h : k < a.length) : (addM a b).getD k 0 = a.getD k 0 + b.getD k 0 := by
  unfold addM
  rw [List.getD_eq_getElem?_getD, List.getElem?_map, List.getElem?_range h]
  rfl
theorem dot_add (l : List Int) (n : Nat) {a b : List Int} (o : Nat) (h : o + n ≤ a.length) : ((List.range n).map fun k => l.getD k 0 * (addM a b).getD (o + k) 0).sum = ((List.range n).map fun k => l.getD k 0 * a.getD (o + k) 0).sum + ((List.range n).map fun k => l.getD k 0 * b.getD (o + k) 0).sum := by
  rw [← sum_add]
  refine congrArg List.sum (List.map_congr_left fun k hk => ?_)
  have := List.mem_range.mp hk
  rw [addM_get (by omega), Int.mul_add]
theorem even_add {l r a b : List Int} (ha : a.length = l.length + r.length) (h1 : evenM l r a = true) (h2 : evenM l r b = true) : evenM l r (addM a b) = true := by
  unfold evenM at *
  have e1 := of_decide_eq_true h1
  have e2 := of_decide_eq_true h2
  have d1 := dot_add l l.length (a := a) (b := b) 0 (by omega)
  have d2 := dot_add r r.length (a := a) (b := b) l.length (by omega)
  simp only [Nat.zero_add] at d1
  exact decide_eq_true (by rw [d1, d2, e1, e2])
theorem dot_zero (l : List Int) (n m o : Nat) : ((List.range n).map fun k => l.getD k 0 * (List.replicate m (0 : Int)).getD (o + k) 0).sum = 0 := by
  have hz : ∀ k, (List.replicate m (0 : Int)).getD (o + k) 0 = 0 := fun k => by
    rw [List.getD_eq_getElem?_getD, List.getElem?_replicate]
    split <;> rfl
  have : ((List.range n).map fun k => l.getD k 0 * (List.replicate m (0 : Int)).getD (o + k) 0) = (List.range n).map fun _ => (0 : Int) := List.map_congr_left fun k _ => by rw [hz, Int.mul_zero]
  rw [this]
  generalize List.range n = xs
  induction xs with
  | nil => rfl
  | cons x xs ih => rw [List.map_cons, List.sum_cons, ih] <;> rfl
theorem even_zero (l r : List Int) (m : Nat) : evenM l r (List.replicate m 0) = true := by
  unfold evenM
  have d1 := dot_zero l l.length m 0
  have d2 := dot_zero r r.length m l.length
  simp only [Nat.zero_add] at d1
  exact decide_eq_true (by rw [d1, d2])
theorem bagStep_len (n : Nat) (row : List Int) : ∀ (ks : List Nat) (bag : List Int), (ks.foldl (bagStep n row) bag).length = bag.length
  | [], _ => rfl
  | k :: ks, bag => by
    rw [List.foldl_cons, bagStep_len n row ks]
    unfold bagStep
    rw [List.length_set]
end
end K65

namespace K65
open PySem L2 DL
section
variable {P : Program} {w : World} {K : PySem.W.Frag} {mg : Str → Option Value} {base : Heap}
abbrev s_law : Stmt := top 27
abbrev N_law : List Str := ["script", "stream", "left", "k", "right", "told", "solved", "row", "due", "one", "turned", "total_v", "j", "known", "general", "whole", "many", "bags", "bag"]
abbrev P_law : List Str := ["script"]
theorem sc_law : FnScope N_law P_law (defScope s_law) := ⟨rfl, rfl, rfl, by decide +kernel, rfl, by decide +kernel, by decide +kernel⟩
/- 0:script 1:stream 2:left 3:k 4:right 5:told 6:solved 7:row 8:due 9:one 10:turned 11:total_v 12:j 13:known 14:general 15:whole 16:many 17:bags 18:bag -/
def spLaw (K : PySem.W.Frag) : Sp := fun vs H Q _ => ∃ (a : Addr) (ns : List Int), vs = [.ref a] ∧ SqL K H a (ns.map V.int) ∧ ns.length ≤ 63 ∧ ∀ H', Q (.bl true) H'
theorem small_of {vs : List Int} (h : ∀ v ∈ vs, 1 ≤ v ∧ v ≤ 3) : ∀ x ∈ vs, small x := fun x hx => by
  have := h x hx
  unfold small
  omega
theorem ok_law {f : Addr} {fd : FuncData} (F : Fun K "law" "law" s_law f fd) (T : Bl mg)
    (C__law_stream : Cal P w K mg base 1 "_law_stream" P__law_stream (spStream K)) (C__law_draw : Cal P w K mg base 1 "_law_draw" P__law_draw (spIO S_draw)) (C__law_pick : Cal P w K mg base 2 "_law_pick" P__law_pick (spIO S_pick))
    (C_least_rows : Cal P w K mg base 2 "least_rows" P_least_rows (spR S_least_rows)) (C__law_all : Cal P w K mg base 1 "_law_all" P__law_all (spR S_law_all)) (C__law_is_even : Cal P w K mg base 1 "_law_is_even" P__law_is_even (spR S_law_is_even))
    (C__law_under : Cal P w K mg base 1 "_law_under" P__law_under (spR S_law_under)) (C__law_same : Cal P w K mg base 4 "_law_same" P__law_same (spR (S_same 2))) (C__law_is_sum : Cal P w K mg base 2 "_law_is_sum" P__law_is_sum (spR S_law_is_sum))
    (C_solutions : Cal P w K mg base 5 "solutions" P_solutions (spR S_solutions)) (C_is_solution : Cal P w K mg base 2 "is_solution" P_is_solution (spR S_is_solution)) (C_comes_of : Cal P w K mg base 13 "comes_of" P_comes_of (spR S_comes_of)) : FnOk P w K mg base CX0 14 f fd P_law (spLaw K) := by
  refine F.ok sc_law (fun vs H Q E h => ?_) (fun cdv A outer s H vs Q E hr h => ?_)
  · obtain ⟨_, _, rfl, _⟩ := h
    rfl
  obtain ⟨a, ns, rfl, hS, hl63, q⟩ := h
  have hu := hu_of hr
  have hu64 := hu64_of hr
  refine ⟨_, (pss_cons (ps_set (i := 1) sc_law.nd rfl (by first | exact Or.inl rfl | exact Or.inr rfl) (DL.pe_cal C__law_stream (hr.mono (by first | decide | omega)) (by rfl) (pa_cons (pv 0) pa_nil)))
      (pss_cons (ps_set (i := 2) sc_law.nd rfl (by first | exact Or.inl rfl | exact Or.inr rfl) (pe_callTy (T := "tuple") (DL.k_tupleOf (K := K) rfl) (by rfl) T.m_tuple (by decide +kernel) (pa_cons (pe_lc (own := [("k", 3)]) (g := (gName 3)) (tt := tYes) rfl sc_law.nd (pi_range1 (by rfl) T.m_range (pa_cons (pe_op op_add pe_int (DL.pe_cal C__law_draw (hr.mono (by first | decide | omega)) (by rfl) (pa_cons (pv 1) (pa_cons pe_int pa_nil)))) pa_nil)) (blkOk_by (own := [("k", 3)]) (N := N_law) (sc := defScope s_law) (by decide +kernel)) (fun _ _ _ _ _ => by exact (pg_name (i := 3) sc_law.nd rfl (by first | exact Or.inl rfl | exact Or.inr rfl))) (fun _ _ _ _ _ => by exact pts_nil) (fun _ _ _ _ _ => by exact (pe_op op_add pe_int (DL.pe_cal C__law_draw (hr.mono (by first | decide | omega)) (by rfl) (pa_cons (pv 1) (pa_cons pe_int pa_nil)))))) pa_nil)))
      (pss_cons (ps_set (i := 4) sc_law.nd rfl (by first | exact Or.inl rfl | exact Or.inr rfl) (pe_callTy (T := "tuple") (DL.k_tupleOf (K := K) rfl) (by rfl) T.m_tuple (by decide +kernel) (pa_cons (pe_lc (own := [("k", 3)]) (g := (gName 3)) (tt := tYes) rfl sc_law.nd (pi_range1 (by rfl) T.m_range (pa_cons (pe_op op_add pe_int (DL.pe_cal C__law_draw (hr.mono (by first | decide | omega)) (by rfl) (pa_cons (pv 1) (pa_cons pe_int pa_nil)))) pa_nil)) (blkOk_by (own := [("k", 3)]) (N := N_law) (sc := defScope s_law) (by decide +kernel)) (fun _ _ _ _ _ => by exact (pg_name (i := 3) sc_law.nd rfl (by first | exact Or.inl rfl | exact Or.inr rfl))) (fun _ _ _ _ _ => by exact pts_nil) (fun _ _ _ _ _ => by exact (pe_op op_add pe_int (DL.pe_cal C__law_draw (hr.mono (by first | decide | omega)) (by rfl) (pa_cons (pv 1) (pa_cons pe_int pa_nil)))))) pa_nil)))
      (pss_cons (ps_set (i := 5) sc_law.nd rfl (by first | exact Or.inl rfl | exact Or.inr rfl) (DL.pe_cal C_least_rows (hr.mono (by first | decide | omega)) (by rfl) (pa_cons (pv 2) (pa_cons (pv 4) pa_nil))))
      (pss_cons (ps_set (i := 6) sc_law.nd rfl (by first | exact Or.inl rfl | exact Or.inr rfl) (pe_lc (own := [("row", 7)]) (g := (gName 7)) (tt := _) rfl sc_law.nd (DL.k_list (K := K) rfl (DL.pe_cal C__law_all (hr.mono (by first | decide | omega)) (by rfl) (pa_cons (pe_op op_add (pe_callB (id := "len") (DL.k_len (K := K) rfl) (by rfl) T.m_len (by decide +kernel) (pa_cons (pv 2) pa_nil)) (pe_callB (id := "len") (DL.k_len (K := K) rfl) (by rfl) T.m_len (by decide +kernel) (pa_cons (pv 4) pa_nil))) (pa_cons pe_int pa_nil)))) (blkOk_by (own := [("row", 7)]) (N := N_law) (sc := defScope s_law) (by decide +kernel)) (fun _ _ _ _ _ => by exact (pg_name (i := 7) sc_law.nd rfl (by first | exact Or.inl rfl | exact Or.inr rfl))) (fun _ _ _ _ _ => by exact (pts_one (PW.pt (pw_and (DL.k_truth (K := K) rfl (DL.pe_cal C__law_is_even (hr.mono (by first | decide | omega)) (by rfl) (pa_cons (pv 2) (pa_cons (pv 4) (pa_cons (pv 7) pa_nil)))) (by intro _; rfl)) (pw_and1 (DL.k_truth (K := K) rfl (pe_callB (id := "any") (DL.k_anyI (K := K) rfl rfl) (by rfl) T.m_any (by decide +kernel) (pa_cons (pv 7) pa_nil)) (by intro _; rfl))))))) (fun _ _ _ _ _ => by exact (pv 7))))
      (pss_cons (ps_setLc (i := 8) (own := [("row", 7)]) (g := (gName 7)) (tt := _) rfl sc_law.nd rfl rfl (sw_true rfl rfl rfl (by decide +kernel)) (DL.k_list (K := K) rfl (pv 6)) (blkOk_by (own := [("row", 7)]) (N := N_law) (sc := defScope s_law) (by decide +kernel)) (fun _ _ _ _ _ => by exact (pg_name (i := 7) sc_law.nd rfl (by first | exact Or.inl rfl | exact Or.inr rfl))) (fun _ _ _ _ _ => by exact (pts_one (pt_not (DL.k_truth (K := K) rfl (pe_callB (id := "any") (DL.k_any (K := K) rfl rfl) (by rfl) T.m_any (by decide +kernel) (pa_cons (pe_lc (own := [("one", 9)]) (g := (gName 9)) (tt := tYes) rfl sc_law.nd (DL.k_list (K := K) rfl (pv 6)) (blkOk_by (own := [("one", 9)]) (N := N_law) (sc := _) (by first | rfl | kernel_rfl)) (fun _ _ _ _ _ => by exact (pg_name (i := 9) sc_law.nd rfl (by first | exact Or.inl rfl | exact Or.inr rfl))) (fun _ _ _ _ _ => by exact pts_nil) (fun _ _ _ _ _ => by exact (pe_and (pe_cmpR (DL.k_neD (K := K) rfl hu64) (pv 9) (pv 7) (nomark _)) (pe_one (DL.pe_cal C__law_under (hr.mono (by first | decide | omega)) (by rfl) (pa_cons (pv 9) (pa_cons (pv 7) pa_nil))))))) pa_nil)) (by intro _; rfl))))) (fun _ _ _ _ _ => by exact (pv 7)))
      (pss_cons (ps_if (pt_not (DL.k_truth (K := K) rfl (DL.pe_cal C__law_same (hr.mono (by first | decide | omega)) (by rfl) (pa_cons (pv 5) (pa_cons (pv 8) pa_nil))) (by intro _; rfl)))
        (pss_one (ps_ret pe_bl))
        pss_nil)
      (pss_cons (ps_set (i := 10) sc_law.nd rfl (by first | exact Or.inl rfl | exact Or.inr rfl) (DL.pe_cal C_least_rows (hr.mono (by first | decide | omega)) (by rfl) (pa_cons (pv 4) (pa_cons (pv 2) pa_nil))))
      (pss_cons (ps_if (pt_not (DL.k_truth (K := K) rfl (DL.pe_cal C__law_same (hr.mono (by first | decide | omega)) (by rfl) (pa_cons (pe_callB (id := "sorted") (DL.k_sorted (K := K) rfl hu64) (by rfl) T.m_sorted (by decide +kernel) (pa_cons (pe_lc (own := [("row", 7)]) (g := (gName 7)) (tt := tYes) rfl sc_law.nd (DL.k_list (K := K) rfl (pv 10)) (blkOk_by (own := [("row", 7)]) (N := N_law) (sc := defScope s_law) (by decide +kernel)) (fun _ _ _ _ _ => by exact (pg_name (i := 7) sc_law.nd rfl (by first | exact Or.inl rfl | exact Or.inr rfl))) (fun _ _ _ _ _ => by exact pts_nil) (fun _ _ _ _ _ => by exact (pe_op (DL.k_catT (K := K) rfl) (pe_slice (DL.k_slT (K := K) rfl) (pv 7) (po_some (pe_callB (id := "len") (DL.k_len (K := K) rfl) (by rfl) T.m_len (by decide +kernel) (pa_cons (pv 4) pa_nil))) po_none) (pe_slice (DL.k_slT (K := K) rfl) (pv 7) po_none (po_some (pe_callB (id := "len") (DL.k_len (K := K) rfl) (by rfl) T.m_len (by decide +kernel) (pa_cons (pv 4) pa_nil))))))) pa_nil)) (pa_cons (pv 5) pa_nil))) (by intro _; rfl)))
        (pss_one (ps_ret pe_bl))
        pss_nil)
      (pss_cons (ps_if (pt_not (DL.k_truth (K := K) rfl (pe_callB (id := "all") (DL.k_all (K := K) rfl rfl) (by rfl) T.m_all (by decide +kernel) (pa_cons (pe_lc (own := [("row", 7)]) (g := (gName 7)) (tt := tYes) rfl sc_law.nd (DL.k_list (K := K) rfl (pv 6)) (blkOk_by (own := [("row", 7)]) (N := N_law) (sc := defScope s_law) (by decide +kernel)) (fun _ _ _ _ _ => by exact (pg_name (i := 7) sc_law.nd rfl (by first | exact Or.inl rfl | exact Or.inr rfl))) (fun _ _ _ _ _ => by exact pts_nil) (fun _ _ _ _ _ => by exact (DL.pe_cal C__law_is_sum (hr.mono (by first | decide | omega)) (by rfl) (pa_cons (pv 7) (pa_cons (pv 5) pa_nil))))) pa_nil)) (by intro _; rfl)))
        (pss_one (ps_ret pe_bl))
        pss_nil)
      (pss_cons (ps_set (i := 11) sc_law.nd rfl (by first | exact Or.inl rfl | exact Or.inr rfl) (pe_callTy (T := "tuple") (DL.k_tupleOf (K := K) rfl) (by rfl) T.m_tuple (by decide +kernel) (pa_cons (pe_op op_rep (pe_lst (pa_cons pe_int pa_nil)) (pe_op op_add (pe_callB (id := "len") (DL.k_len (K := K) rfl) (by rfl) T.m_len (by decide +kernel) (pa_cons (pv 2) pa_nil)) (pe_callB (id := "len") (DL.k_len (K := K) rfl) (by rfl) T.m_len (by decide +kernel) (pa_cons (pv 4) pa_nil)))) pa_nil)))
      (pss_cons (ps_for PassesOwn.never rfl (pi_range1 (by rfl) T.m_range (pa_cons (DL.pe_cal C__law_draw (hr.mono (by first | decide | omega)) (by rfl) (pa_cons (pv 1) (pa_cons pe_int pa_nil))) pa_nil)) (pg_name (i := 3) sc_law.nd rfl (by first | exact Or.inl rfl | exact Or.inr rfl))
        (pss_cons (ps_set (i := 9) sc_law.nd rfl (by first | exact Or.inl rfl | exact Or.inr rfl) (DL.pe_cal C__law_pick (hr.mono (by first | decide | omega)) (by rfl) (pa_cons (pv 1) (pa_cons (pv 5) pa_nil))))
        (pss_one (ps_set (i := 11) sc_law.nd rfl (by first | exact Or.inl rfl | exact Or.inr rfl) (pe_callTy (T := "tuple") (DL.k_tupleOf (K := K) rfl) (by rfl) T.m_tuple (by decide +kernel) (pa_cons (pe_lc (own := [("j", 12)]) (g := (gName 12)) (tt := tYes) rfl sc_law.nd (pi_range1 (by rfl) T.m_range (pa_cons (pe_callB (id := "len") (DL.k_len (K := K) rfl) (by rfl) T.m_len (by decide +kernel) (pa_cons (pv 11) pa_nil)) pa_nil)) (blkOk_by (own := [("j", 12)]) (N := N_law) (sc := defScope s_law) (by decide +kernel)) (fun _ _ _ _ _ => by exact (pg_name (i := 12) sc_law.nd rfl (by first | exact Or.inl rfl | exact Or.inr rfl))) (fun _ _ _ _ _ => by exact pts_nil) (fun _ _ _ _ _ => by exact (pe_op op_add (pe_ix (DL.k_ixT (K := K) rfl) (pv 11) (pv 12) (fun _ _ => rfl)) (pe_ix (DL.k_ixT (K := K) rfl) (pv 9) (pv 12) (fun _ _ => rfl))))) pa_nil))))))
      (pss_cons (ps_if (pt_not (DL.k_truth (K := K) rfl (DL.pe_cal C__law_is_even (hr.mono (by first | decide | omega)) (by rfl) (pa_cons (pv 2) (pa_cons (pv 4) (pa_cons (pv 11) pa_nil)))) (by intro _; rfl)))
        (pss_one (ps_ret pe_bl))
        pss_nil)
      (pss_cons (ps_set (i := 13) sc_law.nd rfl (by first | exact Or.inl rfl | exact Or.inr rfl) (pe_callTy (T := "tuple") (DL.k_tupleOf (K := K) rfl) (by rfl) T.m_tuple (by decide +kernel) (pa_cons (pe_lc (own := [("k", 3)]) (g := (gName 3)) (tt := tYes) rfl sc_law.nd (pi_range1 (by rfl) T.m_range (pa_cons (DL.pe_cal C__law_draw (hr.mono (by first | decide | omega)) (by rfl) (pa_cons (pv 1) (pa_cons pe_int pa_nil))) pa_nil)) (blkOk_by (own := [("k", 3)]) (N := N_law) (sc := defScope s_law) (by decide +kernel)) (fun _ _ _ _ _ => by exact (pg_name (i := 3) sc_law.nd rfl (by first | exact Or.inl rfl | exact Or.inr rfl))) (fun _ _ _ _ _ => by exact pts_nil) (fun _ _ _ _ _ => by exact (DL.pe_cal C__law_draw (hr.mono (by first | decide | omega)) (by rfl) (pa_cons (pv 1) (pa_cons pe_int pa_nil))))) pa_nil)))
      (pss_cons (ps_try_thru0
        (pss_one (ps_set (i := 14) sc_law.nd rfl (by first | exact Or.inl rfl | exact Or.inr rfl) (DL.pe_cal C_solutions (hr.mono (by first | decide | omega)) (by rfl) (pa_cons (pe_tup (pa_cons (pe_slice (DL.k_slT (K := K) rfl) (pv 2) po_none (po_some pe_int)) (pa_cons (pv 13) pa_nil))) (pa_cons (pe_tup (pa_cons (pe_slice (DL.k_slT (K := K) rfl) (pv 4) po_none (po_some pe_int)) (pa_cons (pe_tup pa_nil) pa_nil))) pa_nil))))))
      (pss_cons (ps_for PassesOwn.never rfl (DL.k_list (K := K) rfl (pe_slice (DL.k_slL (K := K) rfl) (pv 14) po_none (po_some pe_int))) (pg_name (i := 15) sc_law.nd rfl (by first | exact Or.inl rfl | exact Or.inr rfl))
        (pss_cons (ps_set (i := 16) sc_law.nd rfl (by first | exact Or.inl rfl | exact Or.inr rfl) (pe_op op_sub (pe_callB (id := "len") (DL.k_len (K := K) rfl) (by rfl) T.m_len (by decide +kernel) (pa_cons (pe_ix (DL.k_ixT (K := K) rfl) (pv 15) pe_int (fun _ _ => rfl)) pa_nil)) (pe_callB (id := "len") (DL.k_len (K := K) rfl) (by rfl) T.m_len (by decide +kernel) (pa_cons (pv 13) pa_nil))))
        (pss_cons (ps_set (i := 17) sc_law.nd rfl (by first | exact Or.inl rfl | exact Or.inr rfl) (pe_lst pa_nil))
        (pss_cons (ps_for PassesOwn.never rfl (DL.k_tup (K := K) rfl (pv 15)) (pg_name (i := 7) sc_law.nd rfl (by first | exact Or.inl rfl | exact Or.inr rfl))
          (pss_cons (ps_set (i := 18) sc_law.nd rfl (by first | exact Or.inl rfl | exact Or.inr rfl) (pe_op op_cat (pe_callTy (T := "list") (DL.k_listOf (K := K) rfl) (by rfl) T.m_list (by decide +kernel) (pa_cons (pe_slice (DL.k_slT (K := K) rfl) (pv 7) po_none (po_some (pe_callB (id := "len") (DL.k_len (K := K) rfl) (by rfl) T.m_len (by decide +kernel) (pa_cons (pv 13) pa_nil)))) pa_nil)) (pe_lst (pa_cons pe_int (pa_cons pe_int pa_nil)))))
          (pss_cons (ps_for PassesOwn.never rfl (pi_range1 (by rfl) T.m_range (pa_cons (pv 16) pa_nil)) (pg_name (i := 3) sc_law.nd rfl (by first | exact Or.inl rfl | exact Or.inr rfl))
            (pss_one (ps_asg (pe_op op_add (pe_ix (DL.k_ixL (K := K) rfl) (pv 18) (pe_op op_add (pe_callB (id := "len") (DL.k_len (K := K) rfl) (by rfl) T.m_len (by decide +kernel) (pa_cons (pv 13) pa_nil)) (pe_op op_modN (pv 3) pe_int)) (fun _ _ => rfl)) (pe_ix (DL.k_ixT (K := K) rfl) (pv 7) (pe_op op_add (pe_callB (id := "len") (DL.k_len (K := K) rfl) (by rfl) T.m_len (by decide +kernel) (pa_cons (pv 13) pa_nil)) (pv 3)) (fun _ _ => rfl))) (pg_sub (pv 18) (pe_op op_add (pe_callB (id := "len") (DL.k_len (K := K) rfl) (by rfl) T.m_len (by decide +kernel) (pa_cons (pv 13) pa_nil)) (pe_op op_modN (pv 3) pe_int)) set_list))))
          (pss_one (ps_expr (pe_bm PySem.F.plainAttrs_list PySem.F.slot_list_append PySem.F.type_list_append mt_append (pv 17) (pa_cons (pe_callTy (T := "tuple") (DL.k_tupleOf (K := K) rfl) (by rfl) T.m_tuple (by decide +kernel) (pa_cons (pv 18) pa_nil)) pa_nil)))))))
        (pss_cons (ps_if (pt_cmpR op_notBl (DL.pe_cal C_is_solution (hr.mono (by first | decide | omega)) (by rfl) (pa_cons (pe_tup (pa_cons (pe_slice (DL.k_slT (K := K) rfl) (pv 2) po_none (po_some pe_int)) (pa_cons (pv 13) pa_nil))) (pa_cons (pe_tup (pa_cons (pe_slice (DL.k_slT (K := K) rfl) (pv 4) po_none (po_some pe_int)) (pa_cons (pe_tup pa_nil) pa_nil))) (pa_cons (pe_callTy (T := "tuple") (DL.k_tupleOf (K := K) rfl) (by rfl) T.m_tuple (by decide +kernel) (pa_cons (pv 17) pa_nil)) pa_nil)))) pe_bl (nomark _))
          (pss_one (ps_ret pe_bl))
          pss_nil)
        (pss_one (ps_if (PW.pt (pw_and (pt_cmpR op_lt (pe_callB (id := "max") (DL.k_max (K := K) rfl rfl) (by rfl) T.m_max (by decide +kernel) (pa_cons (pe_lc (own := [("bag", 18)]) (g := (gName 18)) (tt := tYes) rfl sc_law.nd (DL.k_list (K := K) rfl (pv 17)) (blkOk_by (own := [("bag", 18)]) (N := N_law) (sc := defScope s_law) (by decide +kernel)) (fun _ _ _ _ _ => by exact (pg_name (i := 18) sc_law.nd rfl (by first | exact Or.inl rfl | exact Or.inr rfl))) (fun _ _ _ _ _ => by exact pts_nil) (fun _ _ _ _ _ => by exact (pe_callB (id := "max") (DL.k_maxT (K := K) rfl rfl hu64) (by rfl) T.m_max (by decide +kernel) (pa_cons (pv 18) pa_nil)))) pa_nil)) pe_int (nomark _)) (pw_and1 (pt_cmpR op_notBl (DL.pe_cal C_comes_of (hr.mono (by first | decide | omega)) (by rfl) (pa_cons (pv 15) (pa_cons (pe_callTy (T := "tuple") (DL.k_tupleOf (K := K) rfl) (by rfl) T.m_tuple (by decide +kernel) (pa_cons (pv 17) pa_nil)) (pa_cons (pe_callB (id := "len") (DL.k_len (K := K) rfl) (by rfl) T.m_len (by decide +kernel) (pa_cons (pv 13) pa_nil)) pa_nil)))) pe_bl (nomark _)))))
          (pss_one (ps_ret pe_bl))
          pss_nil)))))))
      (pss_one (ps_ret pe_bl)))))))))))))))))), law_walk (n := 17) hS hl63 (fun cells m0 => ?_) q⟩
  have ok0 : StOk (.lst [lI cells, .int 0, .int 0, .int m0]) := ⟨cells, 0, m0, 0, rfl⟩
  -- left
  refine wps_seq (wps_tupR (vs := [3]) (i0 := 1) (i := 2) (j := 3) (q := none) StOk (fun x => ∃ v : Int, x = .int v ∧ 1 ≤ v ∧ v ≤ 3) (fun n => 1 ≤ n ∧ n ≤ 2) rfl (by decide) (by decide) (fun v hv q d z => by rw [List.mem_singleton.mp hv] at z; cases z)
    (wpa_cons (wpe_op (wpe_ev ev_int (wpe_callIO (i := 1) rfl (ea_cons ev_int ea_nil) ⟨ok0, 2, rfl, by decide, by decide, fun v d1 h1 h2 s1 => ⟨.int (1 + v), ro_int, wpa_nil ⟨(1 + v).toNat, d1, by rw [Int.toNat_of_nonneg (by omega)], by omega, by omega, s1, rfl⟩⟩⟩ fun k1 k2 h s => S_draw_mono k1 k2 h s))))
    (fun d a hd => wpe_op (wpe_ev ev_int (wpe_callIO (i := 1) rfl (ea_cons ev_int ea_nil) ⟨hd, 3, rfl, by decide, by decide, fun v d1 h1 h2 s1 => ⟨.int (1 + v), ro_int, d1, ⟨1 + v, rfl, by omega, by omega⟩, s1, rfl⟩⟩ fun k1 k2 h s => S_draw_mono k1 k2 h s)))
    fun nl xl d1 hn hxl hT ok1 => ?_)
  obtain ⟨l, rfl, hlv⟩ := ints_of xl hT
  rw [List.length_map] at hxl
  -- right
  refine wps_seq (wps_tupR (vs := [3]) (i0 := 1) (i := 4) (j := 3) (q := none) StOk (fun x => ∃ v : Int, x = .int v ∧ 1 ≤ v ∧ v ≤ 3) (fun n => 1 ≤ n ∧ n ≤ 2) rfl (by decide) (by decide) (fun v hv q d z => by rw [List.mem_singleton.mp hv] at z; cases z)
    (wpa_cons (wpe_op (wpe_ev ev_int (wpe_callIO (i := 1) rfl (ea_cons ev_int ea_nil) ⟨ok1, 2, rfl, by decide, by decide, fun v d1 h1 h2 s1 => ⟨.int (1 + v), ro_int, wpa_nil ⟨(1 + v).toNat, d1, by rw [Int.toNat_of_nonneg (by omega)], by omega, by omega, s1, rfl⟩⟩⟩ fun k1 k2 h s => S_draw_mono k1 k2 h s))))
    (fun d a hd => wpe_op (wpe_ev ev_int (wpe_callIO (i := 1) rfl (ea_cons ev_int ea_nil) ⟨hd, 3, rfl, by decide, by decide, fun v d1 h1 h2 s1 => ⟨.int (1 + v), ro_int, d1, ⟨1 + v, rfl, by omega, by omega⟩, s1, rfl⟩⟩ fun k1 k2 h s => S_draw_mono k1 k2 h s)))
    fun nr xr d2 hn2 hxr hT2 ok2 => ?_)
  obtain ⟨r, rfl, hrv⟩ := ints_of xr hT2
  rw [List.length_map] at hxr
  have ll : 1 ≤ l.length ∧ l.length ≤ 2 := by omega
  have lr : 1 ≤ r.length ∧ r.length ≤ 2 := by omega
  obtain ⟨told, turned, e1, e2, b1, b2, hne, hdue, hturn, hsum, heven⟩ := lr_facts (mem_sides ll.1 ll.2 hlv) (mem_sides lr.1 lr.2 hrv)
  have sl := small_of hlv
  have sr := small_of hrv
  have fac : FacOk l r := ⟨sl, sr, by omega, by omega, by omega⟩
  have fac' : FacOk r l := ⟨sr, sl, by omega, by omega, by omega⟩
  let wd := l.length + r.length
  have htw : Wide wd told := leastM_wide e1
  have htw2 : Wide (r.length + l.length) turned := leastM_wide e2
  have hall := allM_len (most := 3) (by decide) wd
  have hal : (allM 3 wd).length ≤ 256 := Nat.le_trans hall.1 (Nat.le_trans (Nat.pow_le_pow_right (by decide) (show wd ≤ 4 by show l.length + r.length ≤ 4; omega)) (by decide))
  have hsl : (solvedM l r).length ≤ 256 := Nat.le_trans (List.length_filter_le _ _) hal
  have hsw : Wide wd (solvedM l r) := fun x hx => hall.2 x (List.mem_filter.mp hx).1
  -- told
  refine wps_seq (wps_asg (d := rowsD told) (ev_call (ea_cons (ev_var rfl) (ea_cons (ev_var rfl) ea_nil)) fun k hk => ⟨l, r, told, rfl, fac, e1, hk⟩) ?_)
  -- solved
  refine wps_seq (wps_asg (d := rowsD (solvedM l r)) (EvN.ev (evN_is (evN_lcfE (xs := allM 3 wd) (e := tI) tI (fun row => evenM l r row && row.any (· != 0)) id (ei_list (ev_call (d := rowsD (allM 3 wd)) (ea_cons (ev_addN (ev_len (ev_var rfl) (len_tI l)) (ev_len (ev_var rfl) (len_tI r))) (ea_cons ev_int ea_nil)) fun k hk => ⟨wd, 3, rfl, by show l.length + r.length ≤ 6; omega, by decide, hk⟩)) (by omega) fun row hrow =>
    ⟨_, wpg_name (by decide), et_and (ev_truB (ev_call (ea_cons (ev_var rfl) (ea_cons (ev_var rfl) (ea_cons (ev_var rfl) ea_nil))) fun k hk => ⟨l, r, row, rfl, sl, sr, by omega, by omega, hall.2 row hrow, hk⟩)) fun _ => ev_truB (ev_anyI (ev_var rfl)), fun _ => ev_var rfl⟩) (by rw [List.map_id] <;> rfl))) ?_)
  -- due
  refine wps_seq (wps_asg (d := rowsD (dueM (solvedM l r))) (EvN.ev (evN_is (evN_lcfE (xs := solvedM l r) (e := tI) tI (fun row => !((solvedM l r).map fun one => !decide (one = row) && underL one row).any id) id (ei_list (ev_var rfl)) (by omega) fun row hrow =>
    ⟨_, wpg_name (by decide), et_not (ev_truB (ev_any (EvN.ev (evN_lcE (xs := solvedM l r) (e := tI) D.bl (fun one => !decide (one = row) && underL one row) (ei_list (ev_var rfl)) (by omega) fun one hone =>
      ⟨_, wpg_name (by decide), ev_andV (ev_neF faith_tI (n := 1) (ev_var rfl) (ev_var rfl) (pl_tI _) (pl_tI _)) fun _ => ev_call (ea_cons (ev_var rfl) (ea_cons (ev_var rfl) ea_nil)) fun k hk => ⟨one, row, rfl, by rw [hsw one hone, hsw row hrow]; exact Nat.le_refl _, by rw [hsw one hone]; show l.length + r.length ≤ _; omega, hk⟩⟩)))), fun _ => ev_var rfl⟩) (by rw [List.map_id] <;> rfl))) ?_)
  -- the same
  refine wps_seq (wps_if (b := !decide (told = dueM (solvedM l r))) (et_not (ev_truB (ev_call (ea_cons (ev_var rfl) (ea_cons (ev_var rfl) ea_nil)) fun k hk => ⟨told, dueM (solvedM l r), rfl, b1, fun x hx => by rw [htw x hx]; show l.length + r.length ≤ _; omega, hk⟩))) (fun z => by rw [decide_eq_true hdue] at z; cases z) (fun _ => wps_next ?_))
  refine wps_seq (wps_asg (d := rowsD turned) (ev_call (ea_cons (ev_var rfl) (ea_cons (ev_var rfl) ea_nil)) fun k hk => ⟨r, l, turned, rfl, fac', e2, hk⟩) ?_)
  have hwt : Wide wd (turned.map (turnM r.length)) := fun x hx => by
    obtain ⟨y, hy, rfl⟩ := List.mem_map.mp hx
    have := htw2 y hy
    unfold turnM
    simp
    show _ = l.length + r.length
    omega
  refine wps_seq (wps_if (b := !decide (isort leRow (turned.map (turnM r.length)) = told)) (et_not (ev_truB (ev_call (ea_cons (EvN.ev (evN_is (evN_cb (ea_cons (EvN.ev (evN_lcE (xs := turned) (e := tI) tI (turnM r.length) (ei_list (ev_var rfl)) (by omega) fun row hrow =>
      ⟨_, wpg_name (by decide), ev_catI (ev_fromI (ev_var rfl) (ev_len (ev_var rfl) (len_tI r))) (ev_toI (ev_var rfl) (ev_len (ev_var rfl) (len_tI r))) (by have := htw2 row hrow; simp; omega)⟩)) ea_nil) (rcn_sorted (n := 1) (pl_map pl_tI _) (by decide) (rows_alike _) (rows_sortable (n := wd - 1) (by rw [show wd - 1 + 1 = wd by show l.length + r.length - 1 + 1 = l.length + r.length; omega]; exact hwt)))) (d := rowsD (isort leRow (turned.map (turnM r.length)))) (by rw [sortD_rows] <;> rfl))) (ea_cons (ev_var rfl) ea_nil)) fun k hk =>
        ⟨isort leRow (turned.map (turnM r.length)), told, rfl, by rw [hturn]; exact b1, fun x hx => by rw [hturn] at hx; rw [htw x hx]; show l.length + r.length ≤ _; omega, hk⟩))) (fun z => by rw [decide_eq_true hturn] at z; cases z) (fun _ => wps_next ?_))
  -- all sums
  have hsum' : ((solvedM l r).map fun _ => true).all id = true := by
    rw [List.all_map]
    exact List.all_eq_true.mpr fun _ _ => rfl
  refine wps_seq (wps_if (b := !(((solvedM l r).map fun _ => true).all id)) (et_not (ev_truB (ev_all (EvN.ev (evN_lcE (xs := solvedM l r) (e := tI) D.bl (fun _ => true) (ei_list (ev_var rfl)) (by omega) fun row hrow =>
    ⟨_, wpg_name (by decide), ev_call (d := .bl true) (ea_cons (ev_var rfl) (ea_cons (ev_var rfl) ea_nil)) fun k hk => ⟨row, told, true, rfl, by rw [hsw row hrow]; exact htw, by rw [hsw row hrow]; show l.length + r.length ≤ _; omega, b1, hsum row hrow, hk⟩⟩))))) (fun z => by rw [hsum'] at z; cases z) (fun _ => wps_next ?_))
  -- total_v
  refine wps_seq (wps_asg (d := tI (List.replicate wd 0)) (ev_tupL (EvN.ev (evN_repI (z := 0) (k := wd) ev_int (ev_addN (ev_len (ev_var rfl) (len_tI l)) (ev_len (ev_var rfl) (len_tI r))) (by show l.length + r.length ≤ _; omega)))) ?_)
  refine wps_seq (wps_forRE (j := 3) (fun n i env => n ≤ 3 ∧ ∃ s3 s9 tot d, env = [.no, .ow none d, .fz (tI l), s3, .fz (tI r), .fz (rowsD told), .fz (rowsD (solvedM l r)), .no, .fz (rowsD (dueM (solvedM l r))), s9, .fz (rowsD turned), .fz (tI tot), .no, .no, .no, .no, .no, .no, .no] ∧ StOk d ∧ tot.length = wd ∧ evenM l r tot = true)
    (wpa_cons (wpe_callIO (i := 1) rfl (ea_cons ev_int ea_nil) ⟨ok2, 4, rfl, by decide, by decide, fun v d1 h1 h2 s1 => wpa_nil ⟨v.toNat, by rw [Int.toNat_of_nonneg h1], by omega, by omega, _, _, _, d1, rfl, s1, List.length_replicate, even_zero l r _⟩⟩ fun k1 k2 h s => S_draw_mono k1 k2 h s)) ?_ ?_)
  · rintro n i env1 hi ⟨hn3, s3, s9, tot, d, rfl, okd, htl, hte⟩
    refine wps_seq (wps_asgE (wpe_callIO (i := 1) rfl (ea_cons (ev_var rfl) ea_nil) ⟨okd, told, rfl, hne, b1, fun one hone d1 s1 => ?_⟩ fun k1 k2 h s => S_pick_mono k1 k2 h s))
    have how := htw one hone
    refine wps_asg (d := tI (addM tot one)) (ev_tupL (EvN.ev (evN_lcE (xs := List.range tot.length) (e := fun (i : Nat) => D.int (i : Int)) D.int (fun j => tot.getD j 0 + one.getD j 0) (ei_rngN (ea_cons (ev_len (ev_var rfl) (len_tI tot)) ea_nil) (by rw [htl]; show l.length + r.length ≤ _; omega)) (by rw [List.length_range, htl]; show l.length + r.length ≤ _; omega) fun j hj =>
      ⟨_, wpg_name (by decide), ev_add (ev_ixI (ev_var rfl) (ev_var rfl) (List.mem_range.mp hj)) (ev_ixI (ev_var rfl) (ev_var rfl) (by have := List.mem_range.mp hj; omega))⟩))) ⟨hn3, .fz (.int (0 + (i : Int))), .fz (tI one), addM tot one, d1, rfl, s1, ?_, even_add htl hte (heven one hone)⟩
    unfold addM
    rw [List.length_map, List.length_range, htl]
  rintro n env1 ⟨hn3, s3, s9, tot, d3, rfl, ok3, htl, hte⟩
  refine wps_seq (wps_if (b := !true) (et_not (ev_truB (ev_call (ea_cons (ev_var rfl) (ea_cons (ev_var rfl) (ea_cons (ev_var rfl) ea_nil))) fun k hk => ⟨l, r, tot, rfl, sl, sr, by omega, by omega, htl, by rw [hte]; exact hk⟩))) (fun z => nomatch z) (fun _ => wps_next ?_))
  -- known
  refine wps_drop 3 ?_
  refine wps_seq (wps_tupR (vs := [3]) (i0 := 1) (i := 13) (j := 3) (q := none) StOk (fun x => ∃ v : Int, x = .int v ∧ 0 ≤ v ∧ v < 2) (fun n => n ≤ 2) rfl (by decide) (by decide) (fun v hv q d z => by rw [List.mem_singleton.mp hv] at z; cases z)
    (wpa_cons (wpe_callIO (i := 1) rfl (ea_cons ev_int ea_nil) ⟨ok3, 3, rfl, by decide, by decide, fun v d1 h1 h2 s1 => wpa_nil ⟨v.toNat, d1, by rw [Int.toNat_of_nonneg h1], by omega, by omega, s1, rfl⟩⟩ fun k1 k2 h s => S_draw_mono k1 k2 h s))
    (fun d a hd => wpe_callIO (i := 1) rfl (ea_cons ev_int ea_nil) ⟨hd, 2, rfl, by decide, by decide, fun v d1 h1 h2 s1 => ⟨d1, ⟨v, rfl, by omega, by omega⟩, s1, rfl⟩⟩ fun k1 k2 h s => S_draw_mono k1 k2 h s)
    fun nk xk d4 hn4 hxk hT4 ok4 => ?_)
  obtain ⟨known, rfl, hkv⟩ := ints_of xk hT4
  rw [List.length_map] at hxk
  have hkl : known.length ≤ 2 := by omega
  obtain ⟨x, hx1, hx2⟩ : ∃ x, l.take 1 = [x] ∧ 1 ≤ x ∧ x ≤ 3 := by
    cases l with
    | nil => simp at ll
    | cons x l => exact ⟨x, rfl, hlv x (by simp)⟩
  obtain ⟨y, hy1, hy2⟩ : ∃ y, r.take 1 = [y] ∧ 1 ≤ y ∧ y ≤ 3 := by
    cases r with
    | nil => simp at lr
    | cons y r => exact ⟨y, rfl, hrv y (by simp)⟩
  obtain ⟨general, hgen, hgl, hwh⟩ := sol_facts hx2 hy2 (mem_knowns hkl hkv)
  have sx : ∀ v ∈ [x], small v := fun v hv => by rw [List.mem_singleton.mp hv]; unfold small; omega
  have sy : ∀ v ∈ [y], small v := fun v hv => by rw [List.mem_singleton.mp hv]; unfold small; omega
  -- general
  refine wps_seq (wps_asg (d := setsD general) (ev_call (ds := [tR [[x], known], tR [[y], []]]) (ea_cons (ev_is (ev_tup (ea_cons (ev_toI (j := 1) (ev_var rfl) ev_int) (ea_cons (ev_var rfl) ea_nil)) (Nat.le_of_ble_eq_true rfl)) (by rw [hx1] <;> rfl)) (ea_cons (ev_is (ev_tup (ea_cons (ev_toI (j := 1) (ev_var rfl) ev_int) (ea_cons (ev_tup ea_nil (Nat.zero_le _)) ea_nil)) (Nat.le_of_ble_eq_true rfl)) (by rw [hy1] <;> rfl)) ea_nil)) fun k hk =>
    ⟨[x], known, [y], [], general, rfl, ⟨sx, sy, by simp, by simp, by simp⟩, ⟨sy, sx, by simp, by simp, by simp⟩, hgen, hk⟩) ?_)
  let n := known.length
  -- for whole in general[:6]
  refine wps_seq (wps_forL (xs := general.take 6) (e := tR) (EvN.ev (evN_is (evN_slL (ev_var rfl) eo_none (eo_some ev_int)) (by rw [show (6 : Int) = ((6 : Nat) : Int) from rfl, cutD_to, ← List.map_take])))
    (fun i env => ∃ s3 s7 s15 s16 s17 s18, env = [.no, .ow none d4, .fz (tI l), s3, .fz (tI r), .fz (rowsD told), .fz (rowsD (solvedM l r)), s7, .fz (rowsD (dueM (solvedM l r))), s9, .fz (rowsD turned), .fz (tI tot), .no, .fz (tI known), .fz (setsD general), s15, s16, s17, s18])
    ⟨_, _, _, _, _, _, rfl⟩ ?_ ?_)
  · rintro i whole env1 hi ⟨s3, s7, s15, s16, s17, s18, rfl⟩
    have hw := hwh whole (List.mem_of_getElem? hi)
    unfold wholeOk at hw
    simp only [Bool.and_eq_true, decide_eq_true_eq, List.all_eq_true, Bool.not_eq_true', Bool.or_eq_true] at hw
    obtain ⟨⟨⟨⟨⟨⟨w1, w2⟩, w3⟩, w4⟩, w5⟩, w6⟩, w7⟩ := hw
    have hne2 : whole ≠ [] := fun z => by rw [z] at w1; cases w1
    have hpos : 0 < whole.length := List.length_pos_iff.mpr hne2
    let m := (whole.getD 0 []).length
    let bags := whole.map (bagM n)
    refine ⟨_, [15], wpg_name (by decide), ?_⟩
    refine wps_seq (wps_asg (d := .int ((m - n : Nat) : Int)) (ev_is (ev_sub (ev_len (ev_ixTE (e := tI) (j := 0) (ev_var rfl) ev_int (get_lt (x := []) hpos)) (len_tI _)) (ev_len (ev_var rfl) (len_tI known))) (congrArg D.int (by show ((whole.getD 0 []).length : Int) - (known.length : Int) = (((whole.getD 0 []).length - known.length : Nat) : Int); omega))) ?_)
    refine wps_seq (wps_asgN (evN_lst ea_nil (by decide)) ?_)
    refine wps_seq (wps_for (xs := whole) (e := tI) (ei_tup (ev_var rfl)) (fun j env => ∃ s3 s7 s18, env = [.no, .ow none d4, .fz (tI l), s3, .fz (tI r), .fz (rowsD told), .fz (rowsD (solvedM l r)), s7, .fz (rowsD (dueM (solvedM l r))), s9, .fz (rowsD turned), .fz (tI tot), .no, .fz (tI known), .fz (setsD general), .fz (tR whole), .fz (.int ((m - n : Nat) : Int)), .ow none (.lst (((whole.take j).map (bagM n)).map tI)), s18])
      ⟨_, _, _, rfl⟩ ?_ ?_)
    · rintro j row env1 hj ⟨s3, s7, s18, rfl⟩
      have hrl : row.length = m := w5 row (List.mem_of_getElem? hj)
      refine ⟨_, [7], wpg_name (by decide), ?_⟩
      let b0 := row.take n ++ [0, 0]
      have hb0 : b0.length = n + 2 := by
        show (row.take known.length ++ [0, 0]).length = known.length + 2
        rw [List.length_append, List.length_take]
        show min known.length row.length + 2 = _
        omega
      refine wps_seq (wps_asgN (evN_catL (e := D.int) (EvN.ev (evN_list (ev_toI (ev_var rfl) (ev_len (ev_var rfl) (len_tI known))) rfl)) (EvN.ev (evN_lst (ds := [(0 : Int), 0].map D.int) (ea_cons ev_int (ea_cons ev_int ea_nil)) (Nat.le_of_ble_eq_true rfl))) (by simp; omega)) ?_)
      refine wps_seq (wps_for (xs := List.range (m - n)) (e := fun (i : Nat) => D.int (i : Int)) (ei_rngN (ea_cons (ev_var rfl) ea_nil) (by show (whole.getD 0 []).length - known.length ≤ _; omega)) (fun t env => ∃ s3, env = [.no, .ow none d4, .fz (tI l), s3, .fz (tI r), .fz (rowsD told), .fz (rowsD (solvedM l r)), .fz (tI row), .fz (rowsD (dueM (solvedM l r))), s9, .fz (rowsD turned), .fz (tI tot), .no, .fz (tI known), .fz (setsD general), .fz (tR whole), .fz (.int ((m - n : Nat) : Int)), .ow none (.lst (((whole.take j).map (bagM n)).map tI)), .ow none (lI (((List.range (m - n)).take t).foldl (bagStep n row) b0))])
        ⟨_, rfl⟩ ?_ ?_)
      · rintro t k env1 ht ⟨s3, rfl⟩
        let bt := ((List.range (m - n)).take t).foldl (bagStep n row) b0
        have hbt : bt.length = n + 2 := (bagStep_len n row _ b0).trans hb0
        have hkm : k < m - n := by
          obtain ⟨h1, h2⟩ := List.getElem?_eq_some_iff.mp ht
          rw [List.length_range] at h1
          rw [List.getElem_range] at h2
          omega
        have hidx : D.int ((n : Int) + ((k : Int)).fmod 2) = D.int ((n + k % 2 : Nat) : Int) := congrArg D.int (by rw [Int.fmod_eq_emod_of_nonneg _ (by decide)]; omega)
        have hlt : n + k % 2 < bt.length := by rw [hbt]; omega
        refine ⟨_, [3], wpg_name (by decide), ?_⟩
        refine wps_setL (i := 18) (j := n + k % 2) rfl (ev_add (ev_ixO (d := .int (bt.getD (n + k % 2) 0)) rfl (ev_is (ev_add (ev_len (ev_var rfl) (len_tI known)) (ev_fmod (ev_var rfl) ev_int (by decide))) hidx) (atI_nat' (get_map (get_lt hlt)))) (ev_ixI (l := row) (ev_var rfl) (ev_addN (ev_len (ev_var rfl) (len_tI known)) (ev_var rfl)) (by show known.length + k < row.length; have : k < m - known.length := hkm; omega)))
          (ev_is (ev_add (ev_len (ev_var rfl) (len_tI known)) (ev_fmod (ev_var rfl) ev_int (by decide))) hidx) (by rw [List.length_map]; exact hlt) ⟨.fz (.int (k : Int)), ?_⟩
        rw [foldl_take _ _ ht]
        unfold bagStep lI
        rw [List.map_set]
        rfl
      · rintro env1 ⟨s3, rfl⟩
        rw [List.take_length]
        have hbag : (List.range (m - n)).foldl (bagStep n row) b0 = bagM n row := by unfold bagM; rw [hrl]
        rw [hbag]
        refine wps_freeze 18 rfl (wps_app (i := 17) rfl (ev_tupL (ev_var rfl)) ?_ ⟨s3, .fz (tI row), .fz (lI (bagM n row)), ?_⟩)
        · rw [List.length_map, List.length_map, List.length_take]; omega
        · rw [take_more hj, List.map_append, List.map_append]
          rfl
    · rintro env1 ⟨s3, s7, s18, rfl⟩
      rw [List.take_length]
      refine wps_freeze 17 rfl ?_
      have hbl : bags.length ≤ 100 := by show (whole.map _).length ≤ 100; rw [List.length_map]; exact w2
      have hbne : bags ≠ [] := fun z => hne2 (List.map_eq_nil_iff.mp z)
      have hbag0 : ∀ bag ∈ bags, bag ≠ [] := fun bag hb z => by
        obtain ⟨row, hrow, rfl⟩ := List.mem_map.mp hb
        have : (bagM n row).length = 0 := by rw [z] <;> rfl
        unfold bagM at this
        rw [bagStep_len, List.length_append] at this
        simp at this
      -- is_solution
      refine wps_seq (wps_if (b := !decide (true = true)) (et_test (ev_op (ev_call (d := .bl true) (ds := [tR [[x], known], tR [[y], []], tR bags]) (ea_cons (ev_is (ev_tup (ea_cons (ev_toI (j := 1) (ev_var rfl) ev_int) (ea_cons (ev_var rfl) ea_nil)) (Nat.le_of_ble_eq_true rfl)) (by rw [hx1] <;> rfl)) (ea_cons (ev_is (ev_tup (ea_cons (ev_toI (j := 1) (ev_var rfl) ev_int) (ea_cons (ev_tup ea_nil (Nat.zero_le _)) ea_nil)) (Nat.le_of_ble_eq_true rfl)) (by rw [hy1] <;> rfl)) (ea_cons (ev_tupL (ev_var rfl)) ea_nil))) fun k hk =>
        ⟨[x], known, [y], [], bags, true, rfl, w6, hk⟩) ev_bl ro_notBl)) (fun z => nomatch z) (fun _ => wps_next ?_))
      refine wps_if (b := decide (maxL (bags.map maxL) < 7) && false) (et_and (a := decide (maxL (bags.map maxL) < 7)) (b := false) (et_test (ev_op (ev_max (ns := bags.map maxL) (EvN.ev (evN_lcE (xs := bags) (e := tI) D.int maxL (ei_list (ev_var rfl)) (by omega) fun bag hb =>
        ⟨_, wpg_name (by decide), ev_maxT (ev_var rfl) (hbag0 bag hb)⟩)) (by simpa using hbne)) ev_int ro_cmp)) fun hlt => ?_) (fun z => by rw [Bool.and_false] at z; cases z) (fun _ => wps_next ⟨_, _, _, _, _, _, rfl⟩)
      have hcm : comesM whole bags n = some true := by
        rcases w7 with w7 | w7
        · exact absurd (of_decide_eq_true hlt) (of_decide_eq_false w7)
        · exact w7
      exact et_is (et_test (ev_op (ev_call (d := .bl true) (ea_cons (ev_var rfl) (ea_cons (ev_tupL (ev_var rfl)) (ea_cons (ev_len (ev_var rfl) (len_tI known)) ea_nil))) fun k hk => ⟨whole, bags, n, true, rfl, by omega, hcm, hk⟩) ev_bl ro_notBl)) rfl
  · rintro env1 ⟨s3, s7, s15, s16, s17, s18, rfl⟩
    exact wps_ret ev_bl rfl
end
end K65

namespace K65
open PySem L2 DL
/-- at any depth up to ten -/
theorem can_fill_all {P : Program} {w : World} {K : PySem.W.Frag} {mg : Str → Option Value} {base : Heap} {f : Addr} {fd : FuncData} (F : Fun K "can_fill" "can_fill" s_can_fill f fd) (T : Bl mg) (hmg : mg "can_fill" = some (.ref f)) (hkp : PySem.W.keepIn K (.ref f) = true) (hbi : Binds K fd P_can_fill [])
    (C_under : DL.Cal P w K mg base 1 "under" P_under (spR S_under)) : FnOk P w K mg base CX0 12 f fd P_can_fill (spR fun ds kk => ∃ n, n ≤ 10 ∧ S_can_fill n ds kk) :=
  ⟨fun vs H Q E ⟨_, ds, _, r, n, _, _, _, _, e, _⟩ => by rw [r.length, e] <;> rfl, fun A outer s H args us vs Q E hr he hb hv ⟨F1, ds, ex, r, n, hn, hS⟩ =>
    ((ok_can_fill F T hmg hkp hbi C_under n).mono (by omega)).run A outer s H args us vs Q E hr he hb hv ⟨F1, ds, ex, r, hS⟩⟩
theorem all_mk {l : PySem.W.OpenLaw} {w : World} {K : PySem.W.Frag} {h : Heap} {mg : Str → Option Value} {fa : Addr} (X : K.In h) (G : h.Ns mainGlobals mg) (hfa : mg "law" = some (.ref fa))
    (h0 : DefAt K "total" s_total)
    (h1 : DefAt K "is_under" s_is_under)
    (h2 : DefAt K "least_rows" s_least_rows)
    (h3 : DefAt K "rows_for" s_rows_for)
    (h4 : DefAt K "sums_to" s_sums_to)
    (h5 : DefAt K "subsets" s_subsets)
    (h6 : DefAt K "solutions" s_solutions)
    (h7 : DefAt K "side_sum" s_side_sum)
    (h8 : DefAt K "is_solution" s_is_solution)
    (h9 : DefAt K "under" s_under)
    (h10 : DefAt K "can_fill" s_can_fill)
    (h11 : DefAt K "comes_of" s_comes_of)
    (h12 : DefAt K "_law_stream" s__law_stream)
    (h13 : DefAt K "_law_draw" s__law_draw)
    (h14 : DefAt K "_law_pick" s__law_pick)
    (h15 : DefAt K "_law_same" s__law_same)
    (h16 : DefAt K "_law_all" s__law_all)
    (h17 : DefAt K "_law_is_even" s__law_is_even)
    (h18 : DefAt K "_law_under" s__law_under)
    (h19 : DefAt K "_law_is_sum" s__law_is_sum)
    (hL : DefAt K "law" s_law) (hR : ∃ t, PySem.W.nsIn K mainGlobals "MOST_ROWS" = some (some (.int 100000 t))) (hS : ∃ t, PySem.W.nsIn K mainGlobals "MOST_SETS" = some (some (.int 4096 t)))
    (hB : Bare K ["len", "range", "sum", "any", "all", "tuple", "list", "int", "abs", "max", "min", "sorted", "zip", "enumerate", "isinstance", "str", "dict", "bool"]) :
    ∃ fd : FuncData, (∀ (s : Shared) (v : Value), BindsTo s fd ⟨[v], []⟩ [("script", v)]) ∧ ∀ base : Heap, K.In base → base.Ns mainGlobals mg → FnOk l.prog w K mg base CX0 14 fa fd ["script"] (spLaw K) := by
  have T : Bl mg := hB.bl X G
  obtain ⟨tR, aR⟩ := hR
  have cR := PySem.W.mg_of X G aR
  obtain ⟨tS, aS⟩ := hS
  have cS := PySem.W.mg_of X G aS
  obtain ⟨f0, d0, F0, m0, k0, b0⟩ := h0.get X G P_total (fun _ _ _ _ _ _ us hl => match us, hl with | [_, _], _ => rfl)
  obtain ⟨f1, d1, F1, m1, k1, b1⟩ := h1.get X G P_is_under (fun _ _ _ _ _ _ us hl => match us, hl with | [_, _], _ => rfl)
  obtain ⟨f2, d2, F2, m2, k2, b2⟩ := h2.get X G P_least_rows (fun _ _ _ _ _ _ us hl => match us, hl with | [_, _], _ => rfl)
  obtain ⟨f3, d3, F3, m3, k3, b3⟩ := h3.get X G P_rows_for (fun _ _ _ _ _ _ us hl => match us, hl with | [_, _, _], _ => rfl)
  obtain ⟨f4, d4, F4, m4, k4, b4⟩ := h4.get X G P_sums_to (fun _ _ _ _ _ _ us hl => match us, hl with | [_, _, _], _ => rfl)
  obtain ⟨f5, d5, F5, m5, k5, b5⟩ := h5.get X G P_subsets (fun _ _ _ _ _ _ us hl => match us, hl with | [_], _ => rfl)
  obtain ⟨f6, d6, F6, m6, k6, b6⟩ := h6.get X G P_solutions (fun _ _ _ _ _ _ us hl => match us, hl with | [_, _], _ => rfl)
  obtain ⟨f7, d7, F7, m7, k7, b7⟩ := h7.get X G P_side_sum (fun _ _ _ _ _ _ us hl => match us, hl with | [_, _, _], _ => rfl)
  obtain ⟨f8, d8, F8, m8, k8, b8⟩ := h8.get X G P_is_solution (fun _ _ _ _ _ _ us hl => match us, hl with | [_, _, _], _ => rfl)
  obtain ⟨f9, d9, F9, m9, k9, b9⟩ := h9.get X G P_under (fun _ _ _ _ _ _ us hl => match us, hl with | [_, _, _, _], _ => rfl)
  obtain ⟨f10, d10, F10, m10, k10, b10⟩ := h10.get X G P_can_fill (fun _ _ _ _ _ _ us hl => match us, hl with | [_, _, _], _ => rfl)
  obtain ⟨f11, d11, F11, m11, k11, b11⟩ := h11.get X G P_comes_of (fun _ _ _ _ _ _ us hl => match us, hl with | [_, _, _], _ => rfl)
  obtain ⟨f12, d12, F12, m12, k12, b12⟩ := h12.get X G P__law_stream (fun _ _ _ _ _ _ us hl => match us, hl with | [_], _ => rfl)
  obtain ⟨f13, d13, F13, m13, k13, b13⟩ := h13.get X G P__law_draw (fun _ _ _ _ _ _ us hl => match us, hl with | [_, _], _ => rfl)
  obtain ⟨f14, d14, F14, m14, k14, b14⟩ := h14.get X G P__law_pick (fun _ _ _ _ _ _ us hl => match us, hl with | [_, _], _ => rfl)
  obtain ⟨f15, d15, F15, m15, k15, b15⟩ := h15.get X G P__law_same (fun _ _ _ _ _ _ us hl => match us, hl with | [_, _], _ => rfl)
  obtain ⟨f16, d16, F16, m16, k16, b16⟩ := h16.get X G P__law_all (fun _ _ _ _ _ _ us hl => match us, hl with | [_, _], _ => rfl)
  obtain ⟨f17, d17, F17, m17, k17, b17⟩ := h17.get X G P__law_is_even (fun _ _ _ _ _ _ us hl => match us, hl with | [_, _, _], _ => rfl)
  obtain ⟨f18, d18, F18, m18, k18, b18⟩ := h18.get X G P__law_under (fun _ _ _ _ _ _ us hl => match us, hl with | [_, _], _ => rfl)
  obtain ⟨f19, d19, F19, m19, k19, b19⟩ := h19.get X G P__law_is_sum (fun _ _ _ _ _ _ us hl => match us, hl with | [_, _], _ => rfl)
  obtain ⟨fd, FL, bL⟩ := hL.law X G hfa (y := "script") (fun _ _ _ _ _ _ _ _ => .of_eq rfl)
  refine ⟨fd, bL, fun base _ _ => ?_⟩
  have C_total := Cal.mk' (P := l.prog) (w := w) (base := base) (ok_total F0 T ) m0 k0 b0
  have C_is_under := Cal.mk' (P := l.prog) (w := w) (base := base) (ok_is_under F1 T ) m1 k1 b1
  have C_least_rows := Cal.mk' (P := l.prog) (w := w) (base := base) (ok_least_rows F2 T cR C_total C_is_under) m2 k2 b2
  have C_rows_for := Cal.mk' (P := l.prog) (w := w) (base := base) (ok_rows_for F3 T cR C_total C_is_under C_least_rows) m3 k3 b3
  have C_sums_to := Cal.mk' (P := l.prog) (w := w) (base := base) (ok_sums_to F4 T C_rows_for) m4 k4 b4
  have C_subsets := Cal.mk' (P := l.prog) (w := w) (base := base) (ok_subsets F5 T ) m5 k5 b5
  have C_solutions := Cal.mk' (P := l.prog) (w := w) (base := base) (ok_solutions F6 T cS C_sums_to C_least_rows C_subsets) m6 k6 b6
  have C_side_sum := Cal.mk' (P := l.prog) (w := w) (base := base) (ok_side_sum F7 T ) m7 k7 b7
  have C_is_solution := Cal.mk' (P := l.prog) (w := w) (base := base) (ok_is_solution F8 T C_side_sum) m8 k8 b8
  have C_under := Cal.mk' (P := l.prog) (w := w) (base := base) (ok_under F9 T cS) m9 k9 b9
  have C_can_fill : DL.Cal l.prog w K mg base 12 "can_fill" P_can_fill (spR fun ds kk => ∃ n, n ≤ 10 ∧ S_can_fill n ds kk) := Cal.mk' (can_fill_all F10 T m10 k10 b10 C_under) m10 k10 b10
  have C_comes_of := Cal.mk' (P := l.prog) (w := w) (base := base) (ok_comes_of F11 T C_is_under C_can_fill) m11 k11 b11
  have C__law_stream := Cal.mk' (P := l.prog) (w := w) (base := base) (ok_law_stream F12 T ) m12 k12 b12
  have C__law_draw := Cal.mk' (P := l.prog) (w := w) (base := base) (ok_law_draw F13 T ) m13 k13 b13
  have C__law_pick := Cal.mk' (P := l.prog) (w := w) (base := base) (ok_law_pick F14 T C__law_draw) m14 k14 b14
  have C__law_same := Cal.mk' (P := l.prog) (w := w) (base := base) (ok_same F15 T m15 k15 b15) m15 k15 b15
  have C__law_all := Cal.mk' (P := l.prog) (w := w) (base := base) (ok_law_all F16 T ) m16 k16 b16
  have C__law_is_even := Cal.mk' (P := l.prog) (w := w) (base := base) (ok_law_is_even F17 T ) m17 k17 b17
  have C__law_under := Cal.mk' (P := l.prog) (w := w) (base := base) (ok_law_under F18 T ) m18 k18 b18
  have C__law_is_sum := Cal.mk' (P := l.prog) (w := w) (base := base) (ok_law_is_sum F19 T C__law_under) m19 k19 b19
  exact ok_law FL T C__law_stream C__law_draw C__law_pick C_least_rows C__law_all C__law_is_even C__law_under C__law_same C__law_is_sum C_solutions C_is_solution C_comes_of
end K65
open PySem PySem.W PyProof.Rows
set_option maxHeartbeats 0 in
theorem PySem.Challenge.cw_termtide_k65_whole_sums_of_least_rows_holds : PySem.Challenge.rw_termtide_k65_whole_sums_of_least_rows.Holds := by
  w_on; o_law; k_head; (case hw => w_witness2)
  k_fill
  refine L2.walk_of (l := PySem.Challenge.rw_termtide_k65_whole_sums_of_least_rows) (n := 63) (k := 14) (x := "script") (CX := fun _ => L2.CX0) (sp := fun w => K65.spLaw _) rfl (by decide) rfl ⟨rfl, by decide, by decide⟩ (fun w h Y => PySem.W.kIn_of Y) ?F (fun _ _ a ns hl _ hS => ⟨a, ns, rfl, hS, hl, fun _ => rfl⟩) (fun _ _ _ _ _ h => h)
  case F =>
    intro w mg fa h KX G hmg
    refine' K65.all_mk KX G hmg ?h0 ?h1 ?h2 ?h3 ?h4 ?h5 ?h6 ?h7 ?h8 ?h9 ?h10 ?h11 ?h12 ?h13 ?h14 ?h15 ?h16 ?h17 ?h18 ?h19 ?hL ?hR ?hS ?hB
    (case h0 => (refine' DL.DefAt.mk ?a ?l ?c ?k; (case a => k_is); (case l => k_is); (case c => k_is); (case k => k_is)))
    (case h1 => (refine' DL.DefAt.mk ?a ?l ?c ?k; (case a => k_is); (case l => k_is); (case c => k_is); (case k => k_is)))
    (case h2 => (refine' DL.DefAt.mk ?a ?l ?c ?k; (case a => k_is); (case l => k_is); (case c => k_is); (case k => k_is)))
    (case h3 => (refine' DL.DefAt.mk ?a ?l ?c ?k; (case a => k_is); (case l => k_is); (case c => k_is); (case k => k_is)))
    (case h4 => (refine' DL.DefAt.mk ?a ?l ?c ?k; (case a => k_is); (case l => k_is); (case c => k_is); (case k => k_is)))
    (case h5 => (refine' DL.DefAt.mk ?a ?l ?c ?k; (case a => k_is); (case l => k_is); (case c => k_is); (case k => k_is)))
    (case h6 => (refine' DL.DefAt.mk ?a ?l ?c ?k; (case a => k_is); (case l => k_is); (case c => k_is); (case k => k_is)))
    (case h7 => (refine' DL.DefAt.mk ?a ?l ?c ?k; (case a => k_is); (case l => k_is); (case c => k_is); (case k => k_is)))
    (case h8 => (refine' DL.DefAt.mk ?a ?l ?c ?k; (case a => k_is); (case l => k_is); (case c => k_is); (case k => k_is)))
    (case h9 => (refine' DL.DefAt.mk ?a ?l ?c ?k; (case a => k_is); (case l => k_is); (case c => k_is); (case k => k_is)))
    (case h10 => (refine' DL.DefAt.mk ?a ?l ?c ?k; (case a => k_is); (case l => k_is); (case c => k_is); (case k => k_is)))
    (case h11 => (refine' DL.DefAt.mk ?a ?l ?c ?k; (case a => k_is); (case l => k_is); (case c => k_is); (case k => k_is)))
    (case h12 => (refine' DL.DefAt.mk ?a ?l ?c ?k; (case a => k_is); (case l => k_is); (case c => k_is); (case k => k_is)))
    (case h13 => (refine' DL.DefAt.mk ?a ?l ?c ?k; (case a => k_is); (case l => k_is); (case c => k_is); (case k => k_is)))
    (case h14 => (refine' DL.DefAt.mk ?a ?l ?c ?k; (case a => k_is); (case l => k_is); (case c => k_is); (case k => k_is)))
    (case h15 => (refine' DL.DefAt.mk ?a ?l ?c ?k; (case a => k_is); (case l => k_is); (case c => k_is); (case k => k_is)))
    (case h16 => (refine' DL.DefAt.mk ?a ?l ?c ?k; (case a => k_is); (case l => k_is); (case c => k_is); (case k => k_is)))
    (case h17 => (refine' DL.DefAt.mk ?a ?l ?c ?k; (case a => k_is); (case l => k_is); (case c => k_is); (case k => k_is)))
    (case h18 => (refine' DL.DefAt.mk ?a ?l ?c ?k; (case a => k_is); (case l => k_is); (case c => k_is); (case k => k_is)))
    (case h19 => (refine' DL.DefAt.mk ?a ?l ?c ?k; (case a => k_is); (case l => k_is); (case c => k_is); (case k => k_is)))
    (case hL => (refine' DL.DefAt.mk ?a ?l ?c ?k; (case a => k_is); (case l => k_is); (case c => k_is); (case k => k_is)))
    (case hR => (refine' DL.const_at ?a; (case a => k_is)))
    (case hS => (refine' DL.const_at ?a; (case a => k_is)))
    (case hB => (refine' (DL.Bare.cons ?z0 (DL.Bare.cons ?z1 (DL.Bare.cons ?z2 (DL.Bare.cons ?z3 (DL.Bare.cons ?z4 (DL.Bare.cons ?z5 (DL.Bare.cons ?z6 (DL.Bare.cons ?z7 (DL.Bare.cons ?z8 (DL.Bare.cons ?z9 (DL.Bare.cons ?z10 (DL.Bare.cons ?z11 (DL.Bare.cons ?z12 (DL.Bare.cons ?z13 (DL.Bare.cons ?z14 (DL.Bare.cons ?z15 (DL.Bare.cons ?z16 (DL.Bare.cons ?z17 DL.Bare.nil)))))))))))))))))); (case z0 => k_is); (case z1 => k_is); (case z2 => k_is); (case z3 => k_is); (case z4 => k_is); (case z5 => k_is); (case z6 => k_is); (case z7 => k_is); (case z8 => k_is); (case z9 => k_is); (case z10 => k_is); (case z11 => k_is); (case z12 => k_is); (case z13 => k_is); (case z14 => k_is); (case z15 => k_is); (case z16 => k_is); (case z17 => k_is)))

