import PyProof.Rows.All
import Wide.All
import OpenK.AllK
import Wide.FinOn
import HandS.ForMost
import HandS.EndBits
import HandS.Wide
import HandS.WideBits
import HandS.TupAny
import HandS.TupLe
import HandS.Style
import HandS.Flow
import HandS.Zip
import HandS.More
import HandS.Exc
import HandS.TryOnly
import HandS.ExcOwn
import HandS.WordsExc
import HandS.TryMany
import HandS.IsInst
import PyProof.ReprLen
import PyProof.Rows.ChunkEnd
import HandS.TupMul
import KE.BitLaws
import PySem.Challenge.RW_putinonce_k06_powers_and_inverses
set_option Elab.async false
set_option linter.all false
set_option autoImplicit false
set_option maxRecDepth 100000
set_option maxHeartbeats 4000000
/-! A1: abstract data (trees), abstract memory, and how they lie in the layer's heap. -/
namespace HA
open PySem PySem.Spec PyProof.Rows L2

/-- a value as a tree: tuples and frozen lists by their things, changeable objects by address -/
inductive D where
  | non | bl (b : Bool) | int (i : Int) | str (x : Str) | tup (xs : List D) | lst (xs : List D) | frz (xs : List D) | ref (a : Addr) | ty (n : String)

/-- a changeable object -/
inductive Cell where
  | lst (xs : List D)
  | ins (C : Addr) (fs : List (Str × D))
  | deal (l : Addr)
  | pool
abbrev Mem := Addr → Option Cell
def mset (M : Mem) (a : Addr) (c : Cell) : Mem := fun b => if b = a then some c else M b
theorem mset_same {M : Mem} {a : Addr} {c : Cell} : mset M a c a = some c := by simp [mset]
theorem mset_ne {M : Mem} {a b : Addr} {c : Cell} (h : b ≠ a) : mset M a c b = M b := by simp [mset, h]
theorem mset_mset {M : Mem} {a : Addr} {c c' : Cell} : mset (mset M a c) a c' = mset M a c' := by
  funext b; by_cases h : b = a <;> simp [mset, h]
theorem mset_comm {M : Mem} {a b : Addr} {c c' : Cell} (h : a ≠ b) : mset (mset M a c) b c' = mset (mset M b c') a c := by
  funext z
  by_cases h1 : z = a
  · subst h1; rw [mset_ne h, mset_same, mset_same]
  · by_cases h2 : z = b
    · subst h2; rw [mset_same, mset_ne h1, mset_same]
    · rw [mset_ne h2, mset_ne h1, mset_ne h1, mset_ne h2]
theorem mset_self {M : Mem} {a : Addr} {c : Cell} (h : M a = some c) : mset M a c = M := by
  funext z
  by_cases h1 : z = a
  · subst h1; rw [mset_same, h]
  · rw [mset_ne h1]
/-- more is known -/
def MLe (M M' : Mem) : Prop := ∀ a c, M a = some c → M' a = some c
theorem MLe.refl (M : Mem) : MLe M M := fun _ _ h => h
theorem MLe.trans {M N O : Mem} (h : MLe M N) (k : MLe N O) : MLe M O := fun a c e => k a c (h a c e)
theorem MLe.new {M : Mem} {a : Addr} {c : Cell} (h : M a = none) : MLe M (mset M a c) := fun b d e => by
  rw [mset_ne (fun z => by subst z; rw [h] at e; cases e)]; exact e
theorem MLe.new2 {M N : Mem} {a : Addr} {c : Cell} (h : N a = none) (k : MLe M N) : MLe M (mset N a c) := k.trans (.new h)
theorem none_ne {M : Mem} {a b : Addr} {c : Cell} (h : M a = none) (k : M b = some c) : b ≠ a := fun z => by
  subst z; rw [h] at k; cases k

/-- a tuple: laid in the call, or of the written part -/
def TpAt (K : PySem.W.Frag) (G : Hp) (a : Addr) (xs : List V) : Prop :=
  G a = some (.tup xs) ∨ ∃ (o : Obj) (its : Array Value) (n : Nat), K.lookup a = some o ∧ o.cls = .type "tuple" ∧ o.data = .seq its n ∧ its.size ≤ sizeLine ∧ Vals xs its.toList
theorem TpAt.sq {K : PySem.W.Frag} {G : Hp} {a : Addr} {xs : List V} (h : TpAt K G a xs) : SqT K G a xs := h.elim (fun z => .inl (.inl z)) .inr
theorem TpAt.up {K : PySem.W.Frag} {G G' : Hp} {a : Addr} {xs : List V} (e : Same G G') (h : TpAt K G a xs) : TpAt K G' a xs := h.elim (fun z => .inl (e _ _ z)) .inr
mutual
/-- d lies at v, in the frozen heap G -/
inductive Rp (K : PySem.W.Frag) (G : Hp) : D → V → Prop
  | non : Rp K G .non .non
  | bl (b : Bool) : Rp K G (.bl b) (.bl b)
  | int (i : Int) : Rp K G (.int i) (.int i)
  | str (x : Str) : Rp K G (.str x) (.str x)
  | tup {a : Addr} {vs : List V} {ds : List D} : TpAt K G a vs → RpA K G ds vs → Rp K G (.tup ds) (.ref a)
  | lst {a : Addr} {vs : List V} {ds : List D} : G a = some (.lst vs) → RpA K G ds vs → Rp K G (.lst ds) (.ref a)
  | frz {a : Addr} {vs : List V} {ds : List D} : SqL K G a vs → RpA K G ds vs → Rp K G (.frz ds) (.ref a)
  | ref (a : Addr) : Rp K G (.ref a) (.ref a)
  | ty (n : String) : Rp K G (.ty n) (.ty n)
inductive RpA (K : PySem.W.Frag) (G : Hp) : List D → List V → Prop
  | nil : RpA K G [] []
  | cons {d : D} {v : V} {ds : List D} {vs : List V} : Rp K G d v → RpA K G ds vs → RpA K G (d :: ds) (v :: vs)
end

theorem same_sqt {K : PySem.W.Frag} {G G' : Hp} {a : Addr} {xs : List V} (e : Same G G') (h : SqT K G a xs) : SqT K G' a xs := by
  rcases h with (h | ⟨o, h⟩) | h
  · exact Or.inl (.inl (e _ _ h))
  · exact Or.inl (.inr ⟨o, e _ _ h⟩)
  · exact Or.inr h
mutual
theorem Rp.up {K : PySem.W.Frag} {G G' : Hp} (e : Same G G') : ∀ {d : D} {v : V}, Rp K G d v → Rp K G' d v
  | _, _, .non => .non
  | _, _, .bl b => .bl b
  | _, _, .int i => .int i
  | _, _, .str x => .str x
  | _, _, .tup h k => .tup (h.up e) (RpA.up e k)
  | _, _, .lst h k => .lst (e _ _ h) (RpA.up e k)
  | _, _, .frz h k => .frz (e.seq h) (RpA.up e k)
  | _, _, .ref a => .ref a
  | _, _, .ty n => .ty n
theorem RpA.up {K : PySem.W.Frag} {G G' : Hp} (e : Same G G') : ∀ {d : List D} {v : List V}, RpA K G d v → RpA K G' d v
  | _, _, .nil => .nil
  | _, _, .cons h k => .cons (Rp.up e h) (RpA.up e k)
end
section
variable {K : PySem.W.Frag} {G : Hp}
theorem RpA.len : ∀ {ds : List D} {vs : List V}, RpA K G ds vs → ds.length = vs.length
  | _, _, .nil => rfl
  | _, _, .cons _ k => by simp [RpA.len k]
theorem RpA.get : ∀ {ds : List D} {vs : List V} {i : Nat} {d : D}, RpA K G ds vs → ds[i]? = some d → ∃ v, vs[i]? = some v ∧ Rp K G d v
  | _, _, _, _, .nil, e => by simp at e
  | _, _, 0, _, .cons h _, e => by simp at e; subst e; exact ⟨_, rfl, h⟩
  | _, _, i + 1, d, .cons _ k, e => by
    obtain ⟨v, h1, h2⟩ := RpA.get (i := i) (d := d) k (by simpa using e)
    exact ⟨v, by simpa using h1, h2⟩
theorem RpA.getV : ∀ {ds : List D} {vs : List V} {i : Nat} {v : V}, RpA K G ds vs → vs[i]? = some v → ∃ d, ds[i]? = some d ∧ Rp K G d v
  | _, _, _, _, .nil, e => by simp at e
  | _, _, 0, _, .cons h _, e => by simp at e; subst e; exact ⟨_, rfl, h⟩
  | _, _, i + 1, d, .cons _ k, e => by
    obtain ⟨v, h1, h2⟩ := RpA.getV (i := i) (v := d) k (by simpa using e)
    exact ⟨v, by simpa using h1, h2⟩
theorem RpA.app : ∀ {ds es : List D} {vs ws : List V}, RpA K G ds vs → RpA K G es ws → RpA K G (ds ++ es) (vs ++ ws)
  | _, _, _, _, .nil, k => k
  | _, _, _, _, .cons h t, k => .cons h (RpA.app t k)
theorem RpA.take : ∀ {ds : List D} {vs : List V} (n : Nat), RpA K G ds vs → RpA K G (ds.take n) (vs.take n)
  | _, _, 0, _ => by simpa using RpA.nil
  | _, _, n + 1, .nil => by simpa using RpA.nil
  | _, _, n + 1, .cons h t => .cons h (RpA.take n t)
theorem RpA.drop : ∀ {ds : List D} {vs : List V} (n : Nat), RpA K G ds vs → RpA K G (ds.drop n) (vs.drop n)
  | _, _, 0, h => h
  | _, _, n + 1, .nil => by simpa using RpA.nil
  | _, _, n + 1, .cons h t => RpA.drop n t
theorem RpA.set {d : D} {v : V} (r : Rp K G d v) : ∀ {ds : List D} {vs : List V} (i : Nat), RpA K G ds vs → RpA K G (ds.set i d) (vs.set i v)
  | _, _, _, .nil => .nil
  | _, _, 0, .cons _ t => .cons r t
  | _, _, i + 1, .cons h t => .cons h (RpA.set r i t)
theorem RpA.reverse {ds : List D} {vs : List V} (h : RpA K G ds vs) : RpA K G ds.reverse vs.reverse := by
  induction ds generalizing vs with
  | nil => cases h; exact .nil
  | cons d t ih =>
    cases h with
    | cons a b => simp only [List.reverse_cons]; exact (ih b).app (.cons a .nil)
theorem RpA.dropLast {ds : List D} {vs : List V} (h : RpA K G ds vs) : RpA K G ds.dropLast vs.dropLast := by
  rw [List.dropLast_eq_take, List.dropLast_eq_take, h.len]; exact h.take _
theorem RpA.rep {ds : List D} {vs : List V} (h : RpA K G ds vs) : ∀ n : Nat, RpA K G (List.replicate n ds).flatten (List.replicate n vs).flatten
  | 0 => .nil
  | n + 1 => by simp only [List.replicate_succ, List.flatten_cons]; exact h.app (RpA.rep h n)
theorem RpA.ints : ∀ ns : List Int, RpA K G (ns.map D.int) (ns.map V.int)
  | [] => .nil
  | n :: r => .cons (.int n) (RpA.ints r)
theorem RpA.of_ints : ∀ {ns : List Int} {vs : List V}, RpA K G (ns.map D.int) vs → vs = ns.map V.int
  | [], _, h => by cases h; rfl
  | n :: r, _, h => by
    cases h with
    | cons a b => cases a; rw [RpA.of_ints b]; rfl
theorem RpA.of_bls : ∀ {ns : List Bool} {vs : List V}, RpA K G (ns.map D.bl) vs → vs = ns.map V.bl
  | [], _, h => by cases h; rfl
  | n :: r, _, h => by
    cases h with
    | cons a b => cases a; rw [RpA.of_bls b]; rfl
theorem RpA.of_strs : ∀ {ns : List Str} {vs : List V}, RpA K G (ns.map D.str) vs → vs = ns.map V.str
  | [], _, h => by cases h; rfl
  | n :: r, _, h => by
    cases h with
    | cons a b => cases a; rw [RpA.of_strs b]; rfl
end

/-- attributes by name -/
abbrev FR (K : PySem.W.Frag) (G : Hp) : List (Str × D) → List (Str × V) → Prop := Paired fun (p : Str × D) (q : Str × V) => p.1 = q.1 ∧ Rp K G p.2 q.2
def putD (f : Str) (v : D) : List (Str × D) → List (Str × D)
  | [] => [(f, v)]
  | (g, x) :: r => if g = f then (g, v) :: r else (g, x) :: putD f v r
theorem FR.up {K : PySem.W.Frag} {G G' : Hp} {fs : List (Str × D)} {vs : List (Str × V)} (e : Same G G') (h : FR K G fs vs) : FR K G' fs vs := Paired.mapP h fun _ _ z => ⟨z.1, z.2.up e⟩
theorem FR.look {K : PySem.W.Frag} {G : Hp} {f : Str} {d : D} : ∀ {fs : List (Str × D)} {vs : List (Str × V)}, FR K G fs vs → fs.lookup f = some d → ∃ v, vs.lookup f = some v ∧ Rp K G d v
  | _, _, .nil, e => by simp at e
  | (g, x) :: r, _, .cons h t, e => by
    rename_i q _
    obtain ⟨g', y⟩ := q
    obtain ⟨h1, h2⟩ := h
    dsimp only at h1 h2
    subst h1
    simp only [List.lookup_cons] at e ⊢
    cases hb : f == g with
    | true => rw [hb] at e; cases e; exact ⟨y, rfl, h2⟩
    | false => rw [hb] at e; exact FR.look t e
theorem FR.nolook {K : PySem.W.Frag} {G : Hp} {f : Str} : ∀ {fs : List (Str × D)} {vs : List (Str × V)}, FR K G fs vs → fs.lookup f = none → vs.lookup f = none
  | _, _, .nil, e => rfl
  | (g, x) :: r, _, .cons h t, e => by
    rename_i q _
    obtain ⟨g', y⟩ := q
    obtain ⟨h1, h2⟩ := h
    dsimp only at h1 h2
    subst h1
    simp only [List.lookup_cons] at e ⊢
    cases hb : f == g with
    | true => rw [hb] at e; cases e
    | false => rw [hb] at e; exact FR.nolook t e
theorem FR.put {K : PySem.W.Frag} {G : Hp} {f : Str} {d : D} {v : V} (r : Rp K G d v) : ∀ {fs : List (Str × D)} {vs : List (Str × V)}, FR K G fs vs → FR K G (putD f d fs) (putF f v vs)
  | _, _, .nil => .cons ⟨rfl, r⟩ .nil
  | (g, x) :: r', _, .cons h t => by
    rename_i q _
    obtain ⟨g', y⟩ := q
    obtain ⟨h1, h2⟩ := h
    dsimp only at h1 h2
    subst h1
    simp only [putD, putF]
    by_cases hg : g = f
    · rw [if_pos hg, if_pos hg]; exact .cons ⟨rfl, r⟩ t
    · rw [if_neg hg, if_neg hg]; exact .cons ⟨rfl, h2⟩ (FR.put r t)
theorem FR.len {K : PySem.W.Frag} {G : Hp} {fs : List (Str × D)} {vs : List (Str × V)} (h : FR K G fs vs) : fs.length = vs.length := Paired.length h

/-- how big a drawn cell may be -/
@[irreducible] def big : Nat := 1048576
/-- the cell c lies at a -/
def COk (K : PySem.W.Frag) (G H : Hp) (a : Addr) : Cell → Prop
  | .lst xs => ∃ vs, RpA K G xs vs ∧ H a = some (.lst vs)
  | .ins C fs => ∃ dx vs, FR K G fs vs ∧ H a = some (.ins C dx vs)
  | .deal l => ∃ n : Int, (0 ≤ n ∧ n < 2147483647) ∧ H a = some (.lst [.ref l, .int n])
  | .pool => ∃ ns : List Int, ns.length ≤ 63 ∧ (∀ n ∈ ns, 0 ≤ n ∧ n.natAbs < 2 ^ big) ∧ H a = some (.lst (ns.map V.int))
theorem COk.up {K : PySem.W.Frag} {G G' H H' : Hp} {a : Addr} {c : Cell} (e : Same G G') (h : COk K G H a c) (k : H' a = H a) : COk K G' H' a c := by
  cases c with
  | lst xs => obtain ⟨vs, r, z⟩ := h; exact ⟨vs, r.up e, k.trans z⟩
  | ins C fs => obtain ⟨dx, vs, r, z⟩ := h; exact ⟨dx, vs, r.up e, k.trans z⟩
  | deal l => obtain ⟨n, r, z⟩ := h; exact ⟨n, r, k.trans z⟩
  | pool => obtain ⟨ns, r1, r2, z⟩ := h; exact ⟨ns, r1, r2, k.trans z⟩
theorem COk.some {K : PySem.W.Frag} {G H : Hp} {a : Addr} {c : Cell} (h : COk K G H a c) : ∃ o, H a = Option.some o := by
  cases c with
  | lst xs => obtain ⟨vs, r, z⟩ := h; exact ⟨_, z⟩
  | ins C fs => obtain ⟨dx, vs, r, z⟩ := h; exact ⟨_, z⟩
  | deal l => obtain ⟨n, r, z⟩ := h; exact ⟨_, z⟩
  | pool => obtain ⟨ns, r1, r2, z⟩ := h; exact ⟨_, z⟩
/-- the memory M lies in the heap H over the frozen part G -/
structure SM (K : PySem.W.Frag) (G : Hp) (M : Mem) (H : Hp) : Prop where
  same : Same G H
  cell : ∀ a c, M a = some c → G a = none ∧ COk K G H a c
section
variable {K : PySem.W.Frag} {G H H' : Hp} {M M' : Mem} {a p : Addr} {c : Cell} {o : HO}
theorem SM.drop (s : SM K G M H) (h : MLe M' M) : SM K G M' H := ⟨s.same, fun a c e => s.cell a c (h a c e)⟩
theorem SM.free (s : SM K G M H) (h : H p = none) : G p = none ∧ M p = none := by
  refine ⟨s.same.free h, ?_⟩
  cases e : M p with
  | none => rfl
  | some c => obtain ⟨o, z⟩ := (s.cell p c e).2.some; rw [h] at z; cases z
/-- all that was tracked stays as it is -/
theorem SM.ext (s : SM K G M H) (e : Same H H') : SM K G M H' := ⟨s.same.trans e, fun a c h => by
  obtain ⟨h1, h2⟩ := s.cell a c h
  obtain ⟨o, z⟩ := h2.some
  exact ⟨h1, h2.up (Same.refl G) ((e _ _ z).trans z.symm)⟩⟩
theorem same_upd {H : Hp} {p : Addr} {o : HO} (h : H p = none) : Same H (upd H p o) := fun b u e => by
  rw [upd_ne (ne_of_none e h)]; exact e
/-- a new frozen thing -/
theorem SM.frozen (s : SM K G M H) (h : H p = none) : SM K (upd G p o) M (upd H p o) := by
  obtain ⟨g0, m0⟩ := s.free h
  refine ⟨fun b u e => ?_, fun a c e => ?_⟩
  · by_cases hb : b = p
    · subst hb; rw [upd_same] at e ⊢; exact e
    · rw [upd_ne hb] at e ⊢; exact s.same b u e
  · have ne : a ≠ p := fun z => by subst z; rw [m0] at e; cases e
    obtain ⟨h1, h2⟩ := s.cell a c e
    exact ⟨by rw [upd_ne ne]; exact h1, h2.up (same_upd g0) (upd_ne ne)⟩
/-- a new cell -/
theorem SM.new (s : SM K G M H) (h : H p = none) (k : COk K G (upd H p o) p c) : SM K G (mset M p c) (upd H p o) := by
  obtain ⟨g0, m0⟩ := s.free h
  refine ⟨s.same.trans (same_upd h), fun a c' e => ?_⟩
  by_cases ha : a = p
  · subst ha; rw [mset_same] at e; cases e; exact ⟨g0, k⟩
  · rw [mset_ne ha] at e
    obtain ⟨h1, h2⟩ := s.cell a c' e
    exact ⟨h1, h2.up (Same.refl G) (upd_ne ha)⟩
/-- a cell is written -/
theorem SM.write {c' : Cell} (s : SM K G M H) (h : M a = some c') (k : COk K G (upd H a o) a c) : SM K G (mset M a c) (upd H a o) := by
  obtain ⟨g0, _⟩ := s.cell a c' h
  refine ⟨fun b u e => ?_, fun b d e => ?_⟩
  · rw [upd_ne (fun z => by subst z; rw [g0] at e; cases e)]; exact s.same b u e
  · by_cases hb : b = a
    · subst hb; rw [mset_same] at e; cases e; exact ⟨g0, k⟩
    · rw [mset_ne hb] at e
      obtain ⟨h1, h2⟩ := s.cell b d e
      exact ⟨h1, h2.up (Same.refl G) (upd_ne hb)⟩
end

/-! ### slots, and the readings over trees -/
abbrev AS := List (Option D)
abbrev DK := D → Mem → Prop
/-- what is wanted of an exception: its class, its fields -/
abbrev AX := Addr → List (Str × D) → Mem → Prop
abbrev AXs := AS → AX
structure SS (K : PySem.W.Frag) (B G : Hp) (σ : AS) (M : Mem) (s : List (Option V)) (H : Hp) : Prop where
  base : Same B G
  mem : SM K G M H
  len : σ.length = s.length
  sl : ∀ (i : Nat) (d : D), σ[i]? = some (some d) → ∃ v, s[i]? = some (some v) ∧ Rp K G d v
/-- what is wanted, of a value in the layer's heap -/
def Kv (K : PySem.W.Frag) (G : Hp) (Q : DK) : VK := fun v H => ∃ d M G', Same G G' ∧ SM K G' M H ∧ Rp K G' d v ∧ Q d M
/-- .. of an exception that leaves -/
def Kx (K : PySem.W.Frag) (G : Hp) (E : AX) : XK := fun cls dx H => ∃ C fs a vs M G', cls = .ref C ∧ dx = some a ∧ Same G G' ∧ SM K G' M H ∧ H a = some (.xd vs) ∧ FR K G' fs vs ∧ E C fs M
/-- .. of an exception where the slots are known -/
def Wx (K : PySem.W.Frag) (B : Hp) (E : AXs) : WX := fun cls dx s H => ∃ C fs a vs σ M G, cls = .ref C ∧ dx = some a ∧ SS K B G σ M s H ∧ H a = some (.xd vs) ∧ FR K G fs vs ∧ E σ C fs M
theorem SS.with {K : PySem.W.Frag} {B G G' : Hp} {σ : AS} {M M' : Mem} {s : L2.St} {H H' : Hp} (x : SS K B G σ M s H) (e : Same G G') (m : SM K G' M' H') : SS K B G' σ M' s H' :=
  ⟨x.base.trans e, m, x.len, fun i d h => let ⟨v, h1, h2⟩ := x.sl i d h; ⟨v, h1, h2.up e⟩⟩
abbrev AE := AS → Mem → DK → AXs → Prop
abbrev AT := AS → Mem → (Bool → Mem → Prop) → AXs → Prop
abbrev AA := AS → Mem → (List D → Mem → Prop) → AXs → Prop
def LE (K : PySem.W.Frag) (B : Hp) (W : WX) (t : AE) : TE := fun s H R => ∃ G σ M Q E, SS K B G σ M s H ∧ t σ M Q E ∧ (∀ v H', Kv K G Q v H' → R v H') ∧ ∀ c d s' H', Wx K B E c d s' H' → W c d s' H'
def LT (K : PySem.W.Frag) (B : Hp) (W : WX) (t : AT) : TT := fun s H R => ∃ G σ M Q E, SS K B G σ M s H ∧ t σ M Q E ∧ (∀ b H' M' G', Same G G' → SM K G' M' H' → Q b M' → R b H') ∧ ∀ c d s' H', Wx K B E c d s' H' → W c d s' H'
def LA (K : PySem.W.Frag) (B : Hp) (W : WX) (t : AA) : TA := fun s H R => ∃ G σ M Q E, SS K B G σ M s H ∧ t σ M Q E ∧ (∀ vs H' ds M' G', Same G G' → SM K G' M' H' → RpA K G' ds vs → Q ds M' → R vs H') ∧ ∀ c d s' H', Wx K B E c d s' H' → W c d s' H'
abbrev QE (X : Cx) (B : Hp) (W : WX) (e : Expr) (t : AE) : Prop := PE X e (LE X.K B W t)
abbrev QT (X : Cx) (B : Hp) (W : WX) (e : Expr) (t : AT) : Prop := PT X e (LT X.K B W t)
abbrev QA (X : Cx) (B : Hp) (W : WX) (es : List Expr) (t : AA) : Prop := PA X es (LA X.K B W t)

theorem pe_imp {X : Cx} {e : Expr} {t t' : TE} (h : PE X e t) (k : ∀ σ H Q, t' σ H Q → t σ H Q) : PE X e t' := ⟨fun pins s σ H Q I q => h.run pins s σ H Q I (k σ H Q q)⟩
theorem pt_imp {X : Cx} {e : Expr} {t t' : TT} (h : PT X e t) (k : ∀ σ H Q, t' σ H Q → t σ H Q) : PT X e t' := ⟨fun pins s σ H Q I q => h.run pins s σ H Q I (k σ H Q q)⟩
theorem pw_imp {X : Cx} {e : Expr} {t t' : TT} (h : PW X e t) (k : ∀ σ H Q, t' σ H Q → t σ H Q) : PW X e t' := ⟨fun wh pins s σ H Q I q => h.run wh pins s σ H Q I (k σ H Q q)⟩
theorem pa_imp {X : Cx} {e : List Expr} {t t' : TA} (h : PA X e t) (k : ∀ σ H Q, t' σ H Q → t σ H Q) : PA X e t' := ⟨fun ps pins s σ H Q I q => h.run ps pins s σ H Q I (k σ H Q q)⟩
theorem ps_imp {X : Cx} {e : Stmt} {t t' : TS} (h : PS X e t) (k : ∀ D σ H, t' D σ H → t D σ H) : PS X e t' := ⟨fun pins s σ H D I q => h.run pins s σ H D I (k D σ H q)⟩
theorem pss_imp {X : Cx} {e : List Stmt} {t t' : TS} (h : PSs X e t) (k : ∀ D σ H, t' D σ H → t D σ H) : PSs X e t' := ⟨fun pins s σ H D I q => h.run pins s σ H D I (k D σ H q)⟩

section
variable {X : Cx} {B : Hp} {W : WX} {a b c e : Expr} {es : List Expr} {ta tb tc te : AE} {tt : AT} {tas : AA} {pos : Pos}
/-- a value that is at hand -/
theorem Kv.here {K : PySem.W.Frag} {G : Hp} {Q : DK} {d : D} {v : V} {M : Mem} {H : Hp} (m : SM K G M H) (r : Rp K G d v) (q : Q d M) : Kv K G Q v H := ⟨d, M, G, Same.refl G, m, r, q⟩
theorem Kv.lift {K : PySem.W.Frag} {G G' : Hp} {Q : DK} {v : V} {H : Hp} (e : Same G G') (h : Kv K G' Q v H) : Kv K G Q v H := let ⟨d, M, G2, e2, m, r, q⟩ := h; ⟨d, M, G2, e.trans e2, m, r, q⟩

/-! ### names, constants -/
@[simp] def onSlot (o : Option (Option D)) (k : D → Prop) : Prop := match o with
  | some (some d) => k d
  | _ => False
theorem onSlot_ok {o : Option (Option D)} {k : D → Prop} (h : onSlot o k) : ∃ d, o = some (some d) ∧ k d := by
  match o, h with
  | some (some d), h => exact ⟨d, rfl, h⟩
@[simp] def aVar (i : Nat) : AE := fun σ M Q _ => onSlot σ[i]? fun d => Q d M
@[simp] def aC (d : D) : AE := fun _ M Q _ => Q d M
theorem qe_var (i : Nat) {x : Str} {pos : Pos} (hN : X.N[i]? = some x := by rfl) (hv : Vis X.env.scope x := by first | exact Or.inl rfl | exact Or.inr (Or.inl rfl) | exact Or.inr (Or.inr rfl)) (hd : (x == ("__debug__" : Str)) = false := by decide)
    (hcd : (x == ("__classdict__" : Str)) = false := by decide) : QE X B W (.Name x pos) (aVar i) := pe_imp (pe_var hN hv hd hcd) fun s H R ⟨G, σ, M, Q, E, ss, h, k, _⟩ => by
  obtain ⟨d, e, q⟩ := onSlot_ok h
  obtain ⟨v, e2, r⟩ := ss.sl i d e
  exact ⟨v, e2, k v H (.here ss.mem r q)⟩
/-- a constant by its reading -/
theorem qe_c {v : V} {d : D} (h : PE X e (tC v)) (r : ∀ G, Rp X.K G d v) : QE X B W e (aC d) := pe_imp h fun s H R ⟨G, σ, M, Q, E, ss, q, k, _⟩ => k v H (.here ss.mem (r G) q)
theorem qe_int {i j} : QE X B W (.Constant (.int i) j pos) (aC (.int i)) := qe_c pe_int fun _ => .int i
theorem qe_bl {i j} : QE X B W (.Constant (.bool i) j pos) (aC (.bl i)) := qe_c pe_bl fun _ => .bl i
theorem qe_non {j} : QE X B W (.Constant .none j pos) (aC .non) := qe_c pe_non fun _ => .non
theorem qe_str {i j} : QE X B W (.Constant (.str i) j pos) (aC (.str i)) := qe_c pe_str fun _ => .str i
/-- a module's constant -/
theorem qe_glob {x : Str} {v : V} {u : Value} {d : D} {pos : Pos} (hg : Gl X x) (hm : X.mg x = some u) (r : RelV v u) (rp : ∀ G, Rp X.K G d v) (hd : (x == ("__debug__" : Str)) = false := by decide) : QE X B W (.Name x pos) (aC d) := qe_c (pe_glob hg hm r hd) rp
theorem qe_bltn {x : Str} {n : String} {pos : Pos} (hg : Gl X x) (hm : X.mg x = none) (hv : bootBuiltins x = some (.type n)) (hn : x ≠ "__name__" := by decide) (hd : (x == ("__debug__" : Str)) = false := by decide) : QE X B W (.Name x pos) (aC (.ty n)) := qe_c (pe_bltn (v := .ty n) hg hm hv rfl hn hd) fun _ => .ty n

/-! ### operations by values -/
abbrev A2 := D → D → Mem → DK → Prop
/-- r is right for the layer's rule rc -/
def OkR (K : PySem.W.Frag) (r : A2) (rc : R2) : Prop := ∀ G M H x y xv yv Q R, SM K G M H → Rp K G x xv → Rp K G y yv → r x y M Q → (∀ v H', Kv K G Q v H' → R v H') → rc xv yv H R
@[simp] def aOp (r : A2) (ta tb : AE) : AE := fun σ M Q E => ta σ M (fun x M1 => tb σ M1 (fun y M2 => r x y M2 Q) E) E
/-- two expressions, then something -/
theorem le_bin {K : PySem.W.Frag} {s : L2.St} {H : Hp} {R : V → V → Hp → Prop} {G : Hp} {σ : AS} {M : Mem} {E : AXs} {r : D → D → Mem → Prop} (ss : SS K B G σ M s H) (h : ta σ M (fun x M1 => tb σ M1 (fun y M2 => r x y M2) E) E) (kx : ∀ c d s' H', Wx K B E c d s' H' → W c d s' H')
    (k : ∀ G' M' H' x y xv yv, Same G G' → SM K G' M' H' → Rp K G' x xv → Rp K G' y yv → r x y M' → R xv yv H') :
    LE K B W ta s H fun v H1 => LE K B W tb s H1 fun u H2 => R v u H2 := by
  refine ⟨G, σ, M, _, E, ss, h, fun v H1 ⟨x, M1, G1, e1, m1, r1, q1⟩ => ?_, kx⟩
  refine ⟨G1, σ, M1, _, E, ss.with e1 m1, q1, fun u H2 ⟨y, M2, G2, e2, m2, r2, q2⟩ => ?_, kx⟩
  exact k G2 M2 H2 x y v u (e1.trans e2) m2 (r1.up e2) r2 q2
theorem lift_op {K : PySem.W.Frag} {r : A2} {rc : R2} (ok : OkR K r rc) {s : L2.St} {H : Hp} {R : VK} (h : LE K B W (aOp r ta tb) s H R) : tOp rc (LE K B W ta) (LE K B W tb) s H R := by
  obtain ⟨G, σ, M, Q, E, ss, h, k, kx⟩ := h
  exact le_bin ss h kx fun G' M' H' x y xv yv e m rx ry q => ok G' M' H' x y xv yv Q R m rx ry q fun v H2 kv => k v H2 (kv.lift e)
theorem qe_op {op : Operator} {r : A2} {rc : R2} (ho : OpR X (binaryOp op) rc) (ok : OkR X.K r rc) (ha : QE X B W a ta) (hb : QE X B W b tb) : QE X B W (.BinOp a op b pos) (aOp r ta tb) :=
  pe_imp (pe_op ho ha hb) fun _ _ _ h => lift_op ok h
end
end HA
/-! A2: operators, comparisons, tests over trees. -/
namespace HA
open PySem PySem.Spec L2

section
variable {K : PySem.W.Frag} {G : Hp} {x y d : D} {v : V}
theorem rp_int {i : Int} (h : Rp K G (.int i) v) : v = .int i := by cases h; rfl
theorem rp_bl {i : Bool} (h : Rp K G (.bl i) v) : v = .bl i := by cases h; rfl
theorem rp_str {i : Str} (h : Rp K G (.str i) v) : v = .str i := by cases h; rfl
theorem rp_non (h : Rp K G .non v) : v = .non := by cases h; rfl
theorem rp_ref {a : Addr} (h : Rp K G (.ref a) v) : v = .ref a := by cases h; rfl
theorem rp_tup {ds : List D} (h : Rp K G (.tup ds) v) : ∃ a vs, v = .ref a ∧ SqT K G a vs ∧ RpA K G ds vs := by cases h with | tup h k => exact ⟨_, _, rfl, h.sq, k⟩
theorem rp_tp {ds : List D} (h : Rp K G (.tup ds) v) : ∃ a vs, v = .ref a ∧ TpAt K G a vs ∧ RpA K G ds vs := by cases h with | tup h k => exact ⟨_, _, rfl, h, k⟩
end

/-! ### ints -/
@[simp] def bI (C : Int → Int → Prop) (f : Int → Int → Int) : A2 := fun x y M Q => match x, y with
  | .int i, .int j => C i j ∧ Q (.int (f i j)) M
  | _, _ => False
@[simp] def bI0 (f : Int → Int → Int) : A2 := fun x y M Q => match x, y with
  | .int i, .int j => Q (.int (f i j)) M
  | _, _ => False
theorem bI_ok {K : PySem.W.Frag} {C : Int → Int → Prop} {f : Int → Int → Int} : OkR K (bI C f) (rI C fun i j => .int (f i j)) := fun G M H x y xv yv Q R m rx ry h k => by
  match x, y, h with
  | .int i, .int j, h => exact ⟨i, j, rp_int rx, rp_int ry, h.1, k _ _ (.here m (.int _) h.2)⟩
theorem bI0_ok {K : PySem.W.Frag} {f : Int → Int → Int} : OkR K (bI0 f) (rI0 fun i j => .int (f i j)) := fun G M H x y xv yv Q R m rx ry h k => by
  match x, y, h with
  | .int i, .int j, h => exact ⟨i, j, rp_int rx, rp_int ry, k _ _ (.here m (.int _) h)⟩
/-- a product of numbers that fits -/
def MulOk (i j : Int) : Prop := IntMulOk i j
theorem op_mulO {X : Cx} : OpR X (binaryOp .Mult) (rI MulOk fun i j => .int (i * j)) := opI fun _ _ _ _ _ _ _ hc q => PyProof.Rows.mul_int q hc
theorem iop_mulO {X : Cx} : OpR X (inplaceOp .Mult) (rI MulOk fun i j => .int (i * j)) := opI fun _ _ _ _ _ _ _ hc q => PyProof.Rows.imul_int q hc
theorem MulOk.of {i j : Int} {a b : Nat} (ha : i.natAbs < 2 ^ a) (hb : j.natAbs < 2 ^ b) (h : a + b ≤ 134217728) : MulOk i j := (mulx_ok ha hb h).ok
theorem MulOk.left {i j : Int} (h1 : -18446744073709551616 < i) (h2 : i < 18446744073709551616) : MulOk i j := CMul.ok (.inl ⟨by simpa using h1, by simpa using h2⟩)
theorem MulOk.right {i j : Int} (h1 : -18446744073709551616 < j) (h2 : j < 18446744073709551616) : MulOk i j := CMul.ok (.inr ⟨by simpa using h1, by simpa using h2⟩)
def DivOk (_ j : Int) : Prop := 0 < j ∧ j.natAbs.log2 < 9000
theorem DivOk.of {i j : Int} {b : Nat} (h : 0 < j) (hb : j.natAbs < 2 ^ b) (h0 : 0 < b) (h9 : b ≤ 9000) : DivOk i j := wide_div (i := i) h hb h0 h9
theorem DivOk.small {i j : Int} (h : 0 < j) (hb : j < 18446744073709551616) : DivOk i j := by
  refine DivOk.of (b := 64) h ?_ (by decide) (by decide)
  have e : (2 : Nat) ^ 64 = 18446744073709551616 := by decide
  omega
def ModOk (_ j : Int) : Prop := 0 < j
def ShrOk (_ j : Int) : Prop := 0 ≤ j
def ShlOk (i j : Int) : Prop := CShl i j
theorem ShlOk.of {i j : Int} {n : Nat} (hj : 0 ≤ j) (h : i.natAbs < 2 ^ n) (hn : n + j.toNat ≤ 134217728) : ShlOk i j := by
  have := shl_ok (j := j.toNat) h hn
  rwa [Int.toNat_of_nonneg hj] at this

def intMul (f : Int → Int → Int) := f
section
variable {X : Cx} {B : Hp} {W : WX} {a b c e : Expr} {es : List Expr} {ta tb tc te : AE} {pos : Pos}
abbrev aSub (ta tb : AE) : AE := aOp (bI0 fun i j => i - j) ta tb
theorem qe_sub (ha : QE X B W a ta) (hb : QE X B W b tb) : QE X B W (.BinOp a .Sub b pos) (aOp (bI0 fun i j => i - j) ta tb) := qe_op op_sub bI0_ok ha hb
theorem qe_mod (ha : QE X B W a ta) (hb : QE X B W b tb) : QE X B W (.BinOp a .Mod b pos) (aOp (bI ModOk fun i j => i % j) ta tb) := qe_op op_mod bI_ok ha hb
theorem qe_fdiv (ha : QE X B W a ta) (hb : QE X B W b tb) : QE X B W (.BinOp a .FloorDiv b pos) (aOp (bI DivOk fun i j => i / j) ta tb) := qe_op op_fdivW bI_ok ha hb
theorem qe_pow (ha : QE X B W a ta) (hb : QE X B W b tb) : QE X B W (.BinOp a .Pow b pos) (aOp (bI CPow fun i j => i ^ j.toNat) ta tb) := qe_op op_pow bI_ok ha hb
theorem qe_shl (ha : QE X B W a ta) (hb : QE X B W b tb) : QE X B W (.BinOp a .LShift b pos) (aOp (bI ShlOk fun i j => i * 2 ^ j.toNat) ta tb) := qe_op op_shlW bI_ok ha hb
theorem qe_shr (ha : QE X B W a ta) (hb : QE X B W b tb) : QE X B W (.BinOp a .RShift b pos) (aOp (bI ShrOk fun i j => i / 2 ^ j.toNat) ta tb) := qe_op op_shr bI_ok ha hb
theorem qe_and (ha : QE X B W a ta) (hb : QE X B W b tb) : QE X B W (.BinOp a .BitAnd b pos) (aOp (bI0 Builtin.bitAnd) ta tb) := qe_op op_and bI0_ok ha hb
theorem qe_or (ha : QE X B W a ta) (hb : QE X B W b tb) : QE X B W (.BinOp a .BitOr b pos) (aOp (bI0 Builtin.bitOr) ta tb) := qe_op op_or bI0_ok ha hb
theorem qe_xor (ha : QE X B W a ta) (hb : QE X B W b tb) : QE X B W (.BinOp a .BitXor b pos) (aOp (bI0 Builtin.bitXor) ta tb) := qe_op op_xor bI0_ok ha hb
end

/-! ### + -/
/-- a changeable or frozen list of the call's own -/
@[simp] def LstAt (M : Mem) (x : D) (xs : List D) : Prop := match x with
  | .lst ys => xs = ys
  | .ref a => M a = some (.lst xs)
  | _ => False
/-- any list to be read -/
@[simp] def LsAt (M : Mem) (x : D) (xs : List D) : Prop := match x with
  | .lst ys => xs = ys
  | .frz ys => xs = ys
  | .ref a => M a = some (.lst xs)
  | _ => False
section
variable {K : PySem.W.Frag} {G H : Hp} {M : Mem} {x : D} {xs : List D} {v : V}
theorem lstAt {P : Prop} (m : SM K G M H) (r : Rp K G x v) (h : LstAt M x xs) (k : ∀ a vs, v = .ref a → H a = some (.lst vs) → RpA K G xs vs → P) : P := by
  match x, h with
  | .lst ys, h =>
    cases h
    cases r with | lst g t => exact k _ _ rfl (m.same _ _ g) t
  | .ref a, h =>
    cases r
    obtain ⟨_, vs, t, e⟩ := m.cell a _ h
    exact k a vs rfl e t
theorem lsAt {P : Prop} (m : SM K G M H) (r : Rp K G x v) (h : LsAt M x xs) (k : ∀ a vs, v = .ref a → SqL K H a vs → RpA K G xs vs → P) : P := by
  match x, h with
  | .lst ys, h =>
    cases h
    cases r with | lst g t => exact k _ _ rfl (.of (m.same _ _ g)) t
  | .frz ys, h =>
    cases h
    cases r with | frz g t => exact k _ _ rfl (m.same.seq g) t
  | .ref a, h =>
    cases r
    obtain ⟨_, vs, t, e⟩ := m.cell a _ h
    exact k a vs rfl (.of e) t
/-- a new list, a cell -/
theorem Kv.lst {Q : DK} {R : VK} {p : Addr} {xs : List D} {vs : List V} (m : SM K G M H) (k : ∀ v H', Kv K G Q v H' → R v H') (r : RpA K G xs vs) (hp : H p = none) (q : ∀ p, M p = none → Q (.ref p) (mset M p (.lst xs))) : R (.ref p) (upd H p (.lst vs)) :=
  k _ _ ⟨.ref p, mset M p (.lst xs), G, Same.refl G, m.new hp ⟨vs, r, upd_same⟩, .ref p, q p (m.free hp).2⟩
/-- a new tuple, frozen -/
theorem Kv.tup {Q : DK} {R : VK} {p : Addr} {xs : List D} {vs : List V} (m : SM K G M H) (k : ∀ v H', Kv K G Q v H' → R v H') (r : RpA K G xs vs) (hp : H p = none) (q : Q (.tup xs) M) : R (.ref p) (upd H p (.tup vs)) := by
  have g0 := (m.free hp).1
  exact k _ _ ⟨.tup xs, M, _, same_upd g0, m.frozen hp, .tup (.inl upd_same) (r.up (same_upd g0)), q⟩
end
@[simp] def bAdd : A2 := fun x y M Q => match x, y with
  | .int i, .int j => Q (.int (i + j)) M
  | .str i, .str j => i.length + j.length ≤ sizeLine ∧ Q (.str (i ++ j)) M
  | .tup xs, .tup ys => xs.length + ys.length ≤ sizeLine ∧ Q (.tup (xs ++ ys)) M
  | x, y => ∃ xs ys, LstAt M x xs ∧ LstAt M y ys ∧ xs.length + ys.length ≤ sizeLine ∧ ∀ p, M p = none → Q (.ref p) (mset M p (.lst (xs ++ ys)))
def rAddA (K : PySem.W.Frag) : R2 := fun x y H Q => ((rI0 fun i j => .int (i + j)) x y H Q ∨ (fun x y H Q => ∃ i j, x = .str i ∧ y = .str j ∧ i.length + j.length ≤ sizeLine ∧ Q (.str (i ++ j)) H : R2) x y H Q) ∨ rCatA K x y H Q ∨ rCat x y H Q
theorem op_addA {X : Cx} : OpR X (binaryOp .Add) (rAddA X.K) := (op_add.or op_add_str).or (op_catA.or op_cat)
theorem bAdd_ok {K : PySem.W.Frag} : OkR K bAdd (rAddA K) := fun G M H x y xv yv Q R m rx ry h k => by
  have lists : (∃ xs ys, LstAt M x xs ∧ LstAt M y ys ∧ xs.length + ys.length ≤ sizeLine ∧ ∀ p, M p = none → Q (.ref p) (mset M p (.lst (xs ++ ys)))) → rAddA K xv yv H R := by
    rintro ⟨xs, ys, h1, h2, hz, q⟩
    refine lstAt m rx h1 fun a vs e1 p1 r1 => lstAt m ry h2 fun b ws e2 p2 r2 => ?_
    exact .inr (.inr ⟨a, b, vs, ws, e1, e2, p1, p2, by rw [← r1.len, ← r2.len]; exact hz, fun p hp => Kv.lst m k (r1.app r2) hp q⟩)
  unfold bAdd at h
  split at h
  · cases rx; cases ry
    exact .inl (.inl ⟨_, _, rfl, rfl, k _ _ (.here m (.int _) h)⟩)
  · cases rx; cases ry
    exact .inl (.inr ⟨_, _, rfl, rfl, h.1, k _ _ (.here m (.str _) h.2)⟩)
  · rename_i xs ys
    obtain ⟨a, vs, rfl, p1, r1⟩ := rp_tup rx
    obtain ⟨b, ws, rfl, p2, r2⟩ := rp_tup ry
    obtain ⟨hz, q⟩ := h
    refine .inr (.inl ⟨a, b, vs, ws, rfl, rfl, same_sqt m.same p1, same_sqt m.same p2, by rw [← r1.len, ← r2.len]; exact hz, fun e => ?_, fun _ e => ?_, fun _ _ p hp => Kv.tup m k (r1.app r2) hp q⟩)
    · subst e; cases r1; exact k _ _ (.here m ry q)
    · subst e; cases r2; exact k _ _ (.here m rx (by simpa using q))
  · exact lists h
section
variable {X : Cx} {B : Hp} {W : WX} {a b c e : Expr} {es : List Expr} {ta tb tc te : AE} {pos : Pos}
theorem qe_add (ha : QE X B W a ta) (hb : QE X B W b tb) : QE X B W (.BinOp a .Add b pos) (aOp bAdd ta tb) := qe_op op_addA bAdd_ok ha hb
end

/-! ### comparisons -/
@[simp] def bC (f : Int → Int → Bool) : A2 := fun x y M Q => match x, y with
  | .int i, .int j => Q (.bl (f i j)) M
  | _, _ => False
theorem bC_ok {K : PySem.W.Frag} {f : Int → Int → Bool} : OkR K (bC f) (rI0 fun i j => .bl (f i j)) := fun G M H x y xv yv Q R m rx ry h k => by
  match x, y, h with
  | .int i, .int j, h => exact ⟨i, j, rp_int rx, rp_int ry, k _ _ (.here m (.bl _) h)⟩

mutual
/-- d is the data p, as the memory stands -/
inductive DR (M : Mem) : D → PyData → Prop
  | non : DR M .non .none
  | bl (b : Bool) : DR M (.bl b) (.bool b)
  | int (i : Int) : DR M (.int i) (.int i)
  | str (x : Str) : DR M (.str x) (.str x)
  | tup {xs : List D} {ps : List PyData} : DRA M xs ps → DR M (.tup xs) (.tuple ps)
  | lst {x : D} {xs : List D} {ps : List PyData} : LsAt M x xs → DRA M xs ps → DR M x (.list ps)
inductive DRA (M : Mem) : List D → List PyData → Prop
  | nil : DRA M [] []
  | cons {x : D} {p : PyData} {xs : List D} {ps : List PyData} : DR M x p → DRA M xs ps → DRA M (x :: xs) (p :: ps)
end
mutual
theorem DR.dp {K : PySem.W.Frag} {G H : Hp} {M : Mem} (m : SM K G M H) : ∀ {d : D} {p : PyData} {v : V}, DR M d p → Rp K G d v → Dp K H v p
  | _, _, _, .non, r => by cases r; exact .non
  | _, _, _, .bl b, r => by cases r; exact .bl b
  | _, _, _, .int b, r => by cases r; exact .int b
  | _, _, _, .str b, r => by cases r; exact .str b
  | _, _, _, .tup h, r => by
    obtain ⟨a, vs, rfl, p1, r1⟩ := rp_tup r
    exact .tup (same_sqt m.same p1) (DRA.dp m h r1)
  | _, _, _, .lst h t, r => lsAt m r h fun a vs e p r1 => by subst e; exact .lst p (DRA.dp m t r1)
theorem DRA.dp {K : PySem.W.Frag} {G H : Hp} {M : Mem} (m : SM K G M H) : ∀ {d : List D} {p : List PyData} {v : List V}, DRA M d p → RpA K G d v → DpAll K H v p
  | _, _, _, .nil, r => by cases r; exact .nil
  | _, _, _, .cons h t, r => by
    cases r with | cons r1 r2 => exact .cons (DR.dp m h r1) (DRA.dp m t r2)
end
theorem DRA.ints {M : Mem} : ∀ ns : List Int, DRA M (ns.map D.int) (ns.map PyData.int)
  | [] => .nil
  | n :: r => .cons (.int n) (DRA.ints r)
theorem DRA.app {M : Mem} : ∀ {xs ys : List D} {ps qs : List PyData}, DRA M xs ps → DRA M ys qs → DRA M (xs ++ ys) (ps ++ qs)
  | _, _, _, _, .nil, h => h
  | _, _, _, _, .cons a b, h => .cons a (DRA.app b h)

/-- ==: scalars at once, else by the data -/
def bEq (neg : Bool) : A2 := fun x y M Q => match x, y with
  | .int i, .int j => Q (.bl (neg ^^ decide (i = j))) M
  | .str i, .str j => Q (.bl (neg ^^ decide (i = j))) M
  | .bl i, .bl j => Q (.bl (neg ^^ decide (i = j))) M
  | .non, .non => Q (.bl (neg ^^ true)) M
  | x, y => ∃ d e, DR M x d ∧ DR M y e ∧ SeqAt.shaped d = true ∧ SeqAt.shaped e = true ∧ Q (.bl (neg ^^ PyData.eqv d e)) M
theorem vI {i j : Int} : decide (V.int i = V.int j) = decide (i = j) := by simp
theorem vS {i j : Str} : decide (V.str i = V.str j) = decide (i = j) := by simp
theorem vB {i j : Bool} : decide (V.bl i = V.bl j) = decide (i = j) := by simp
theorem xor_f (b : Bool) : (false ^^ b) = b := by cases b <;> rfl
theorem xor_t (b : Bool) : (true ^^ b) = !b := by cases b <;> rfl
theorem bEq_ok {K : PySem.W.Frag} : OkR K (bEq false) (fun x y H Q => rEq x y H Q ∨ rEqD K x y H Q) := fun G M H x y xv yv Q R m rx ry h k => by
  unfold bEq at h
  simp only [xor_f] at h
  split at h
  · cases rx; cases ry
    exact .inl ⟨rfl, k _ _ (.here m (by rw [vI]; exact .bl _) h)⟩
  · cases rx; cases ry
    exact .inl ⟨rfl, k _ _ (.here m (by rw [vS]; exact .bl _) h)⟩
  · cases rx; cases ry
    exact .inl ⟨rfl, k _ _ (.here m (by rw [vB]; exact .bl _) h)⟩
  · cases rx; cases ry
    exact .inl ⟨rfl, k _ _ (.here m (.bl _) (by simpa using h))⟩
  · obtain ⟨d, e, h1, h2, s1, s2, q⟩ := h
    exact .inr ⟨d, e, h1.dp m rx, h2.dp m ry, s1, s2, k _ _ (.here m (.bl _) q)⟩
theorem bNe_ok {K : PySem.W.Frag} : OkR K (bEq true) (fun x y H Q => rNe x y H Q ∨ rNeD K x y H Q) := fun G M H x y xv yv Q R m rx ry h k => by
  unfold bEq at h
  simp only [xor_t] at h
  split at h
  · cases rx; cases ry
    exact .inl ⟨rfl, k _ _ (.here m (by rw [vI]; exact .bl _) h)⟩
  · cases rx; cases ry
    exact .inl ⟨rfl, k _ _ (.here m (by rw [vS]; exact .bl _) h)⟩
  · cases rx; cases ry
    exact .inl ⟨rfl, k _ _ (.here m (by rw [vB]; exact .bl _) h)⟩
  · cases rx; cases ry
    exact .inl ⟨rfl, k _ _ (.here m (.bl _) (by simpa using h))⟩
  · obtain ⟨d, e, h1, h2, s1, s2, q⟩ := h
    exact .inr ⟨d, e, h1.dp m rx, h2.dp m ry, s1, s2, k _ _ (.here m (.bl _) q)⟩

/-- the operator's reading over trees -/
def CmpOk (X : Cx) (op : CmpOp) (r : A2) : Prop := ∃ rc, OpR X (compareOp op) rc ∧ OkR X.K r rc
section
variable {X : Cx}
theorem c_lt : CmpOk X .Lt (bC fun i j => decide (i < j)) := ⟨_, op_lt, bC_ok⟩
theorem c_le : CmpOk X .LtE (bC fun i j => decide (i ≤ j)) := ⟨_, op_le, bC_ok⟩
theorem c_gt : CmpOk X .Gt (bC fun i j => decide (j < i)) := ⟨_, op_gt, bC_ok⟩
theorem c_ge : CmpOk X .GtE (bC fun i j => decide (j ≤ i)) := ⟨_, op_ge, bC_ok⟩
theorem c_eq (hu : X.A.units + 64 < cLine) : CmpOk X .Eq (bEq false) := ⟨_, op_eq.or (op_eqD hu), bEq_ok⟩
theorem c_ne (hu : X.A.units + 64 < cLine) : CmpOk X .NotEq (bEq true) := ⟨_, op_ne.or (op_neD hu), bNe_ok⟩
/-- is None -/
@[simp] def isNon : D → Bool
  | .non => true
  | _ => false
@[simp] def bIsN (neg : Bool) : A2 := fun x y M Q => match y with
  | .non => Q (.bl (neg ^^ isNon x)) M
  | _ => False
theorem isNon_eq {K : PySem.W.Frag} {G : Hp} {x : D} {v : V} (r : Rp K G x v) : decide (v = V.non) = isNon x := by
  cases r <;> first | rfl | simp [isNon]
theorem c_is : CmpOk X .Is (bIsN false) := ⟨_, op_isN, fun G M H x y xv yv Q R m rx ry h k => by
  match y, h with
  | .non, h => exact ⟨rp_non ry, k _ _ (.here m (by rw [isNon_eq rx]; exact .bl _) (by simpa [bIsN] using h))⟩⟩
theorem c_isnot : CmpOk X .IsNot (bIsN true) := ⟨_, op_notN, fun G M H x y xv yv Q R m rx ry h k => by
  match y, h with
  | .non, h => exact ⟨rp_non ry, k _ _ (.here m (by rw [isNon_eq rx]; exact .bl _) (by simpa [bIsN] using h))⟩⟩
end

section
variable {X : Cx} {B : Hp} {W : WX} {a b c e : Expr} {es : List Expr} {ta tb tc te : AE} {tt tu : AT} {pos : Pos}
theorem qe_cmp {op : CmpOp} {r : A2} (o : CmpOk X op r) (ha : QE X B W a ta) (hb : QE X B W b tb) (hm : behindInMarks op b = false := by first | exact nomark _ | rfl) : QE X B W (.Compare a [op] [b] pos) (aOp r ta tb) := by
  obtain ⟨rc, ho, ok⟩ := o
  exact pe_imp (pe_cmpR ho ha hb hm) fun _ _ _ h => lift_op ok h
/-- a test's answer is True or False -/
@[simp] def onBl (x : D) (k : Bool → Prop) : Prop := match x with
  | .bl b => k b
  | _ => False
@[simp] def aTest (t : AE) : AT := fun σ M Q E => t σ M (fun x M' => onBl x fun k => Q k M') E
theorem qt_cmp {op : CmpOp} {r : A2} (o : CmpOk X op r) (ha : QE X B W a ta) (hb : QE X B W b tb) (hm : behindInMarks op b = false := by first | exact nomark _ | rfl) : QT X B W (.Compare a [op] [b] pos) (aTest (aOp r ta tb)) := by
  obtain ⟨rc, ho, ok⟩ := o
  refine pt_imp (pt_cmpR ho ha hb hm) fun s H R ⟨G, σ, M, Q, E, ss, h, k, kx⟩ => ?_
  exact lift_op ok ⟨G, σ, M, _, E, ss, h, fun v H' ⟨d, M', G', e, m, r, q⟩ => by
    match d, q with
    | .bl b, q => exact ⟨b, rp_bl r, k b H' M' G' e m q⟩, kx⟩
/-- a op b op' c -/
@[simp] def aChain (r r' : A2) (ta tb tc : AE) : AE := fun σ M Q E => ta σ M (fun x M1 => tb σ M1 (fun y M2 => r x y M2 fun z M3 => onBl z fun k => (k = true → tc σ M3 (fun w M4 => r' y w M4 Q) E) ∧ (k = false → Q (.bl false) M3)) E) E
theorem lift_chain {K : PySem.W.Frag} {r r' : A2} {rc rc' : R2} (ok : OkR K r rc) (ok' : OkR K r' rc') {s : L2.St} {H : Hp} {R : VK} (h : LE K B W (aChain r r' ta tb tc) s H R) : tChain rc rc' (LE K B W ta) (LE K B W tb) (LE K B W tc) s H R := by
  obtain ⟨G, σ, M, Q, E, ss, h, k, kx⟩ := h
  have h : ta σ M (fun x M1 => tb σ M1 (fun y M2 => r x y M2 fun z M3 => onBl z fun k => (k = true → tc σ M3 (fun w M4 => r' y w M4 Q) E) ∧ (k = false → Q (.bl false) M3)) E) E := h
  refine le_bin (r := fun x y M2 => r x y M2 fun z M3 => onBl z fun k => (k = true → tc σ M3 (fun w M4 => r' y w M4 Q) E) ∧ (k = false → Q (.bl false) M3)) ss h kx fun G1 M1 H1 x y xv yv e m rx ry q => ?_
  refine ok G1 M1 H1 x y xv yv _ _ m rx ry q fun v H2 ⟨d, M2, G2, e2, m2, r2, q2⟩ => ?_
  match d, q2 with
  | .bl b, q2 =>
    refine ⟨b, rp_bl r2, ?_⟩
    cases b with
    | true =>
      refine iteT ⟨G2, σ, M2, _, E, (ss.with e m).with e2 m2, q2.1 rfl, fun w H3 ⟨z, M3, G3, e3, m3, r3, q3⟩ => ?_, kx⟩
      exact ok' G3 M3 H3 y z yv w Q R m3 (ry.up (e2.trans e3)) r3 q3 fun v H4 kv => k v H4 (kv.lift (e.trans (e2.trans e3)))
    | false => exact iteF (k _ _ ((Kv.here m2 (.bl false) (q2.2 rfl)).lift (e.trans e2)))
theorem qe_chain {op op' : CmpOp} {r r' : A2} (o : CmpOk X op r) (o' : CmpOk X op' r') (ha : QE X B W a ta) (hb : QE X B W b tb) (hc : QE X B W c tc) (hm : lastMarks [op, op'] [b, c] = false := by with_unfolding_all rfl) : QE X B W (.Compare a [op, op'] [b, c] pos) (aChain r r' ta tb tc) := by
  obtain ⟨rc, ho, ok⟩ := o
  obtain ⟨rc', ho', ok'⟩ := o'
  exact pe_imp (pe_chain ho ho' ha hb hc hm) fun _ _ _ h => lift_chain ok ok' h
theorem qt_chain {op op' : CmpOp} {r r' : A2} (o : CmpOk X op r) (o' : CmpOk X op' r') (ha : QE X B W a ta) (hb : QE X B W b tb) (hc : QE X B W c tc) (hm : lastMarks [op, op'] [b, c] = false := by with_unfolding_all rfl) : QT X B W (.Compare a [op, op'] [b, c] pos) (aTest (aChain r r' ta tb tc)) := by
  obtain ⟨rc, ho, ok⟩ := o
  obtain ⟨rc', ho', ok'⟩ := o'
  refine pt_imp (pt_chain ho ho' ha hb hc hm) fun s H R ⟨G, σ, M, Q, E, ss, h, k, kx⟩ => ?_
  exact lift_chain ok ok' ⟨G, σ, M, _, E, ss, h, fun v H' ⟨d, M', G', e, m, r, q⟩ => by
    match d, q with
    | .bl b, q => exact ⟨b, rp_bl r, k b H' M' G' e m q⟩, kx⟩

/-! ### truth -/
/-- a value's truth -/
@[simp] def tru (x : D) (M : Mem) (k : Bool → Prop) : Prop := match x with
  | .non => k false
  | .bl b => k b
  | .int i => k (i != 0)
  | .str y => y.length ≤ sizeLine ∧ k ((y.length : Int) != 0)
  | .tup xs => k (!xs.isEmpty)
  | x => ∃ xs, LsAt M x xs ∧ k (!xs.isEmpty)
theorem empty_eq {K : PySem.W.Frag} {G : Hp} {xs : List D} {vs : List V} (r : RpA K G xs vs) : xs.isEmpty = vs.isEmpty := by cases r <;> rfl
theorem tru_to {K : PySem.W.Frag} {G H : Hp} {M : Mem} {x : D} {v : V} {P : Bool → Prop} (m : SM K G M H) (r : Rp K G x v) (h : tru x M P) : ∃ k, TruV K v H k ∧ P k := by
  unfold tru at h
  split at h
  · cases r; exact ⟨false, rfl, h⟩
  · cases r; exact ⟨_, rfl, h⟩
  · cases r; exact ⟨_, rfl, h⟩
  · cases r; exact ⟨_, ⟨h.1, rfl⟩, h.2⟩
  · obtain ⟨a, vs, rfl, p, t⟩ := rp_tup r
    exact ⟨_, .inr (.inl ⟨vs, same_sqt m.same p, rfl⟩), by rw [← empty_eq t]; exact h⟩
  · obtain ⟨xs, h1, h2⟩ := h
    refine lsAt m r h1 fun a vs e p t => ?_
    subst e
    exact ⟨_, .inl ⟨vs, p, rfl⟩, by rw [← empty_eq t]; exact h2⟩
@[simp] def aTruth (t : AE) : AT := fun σ M Q E => t σ M (fun x M' => tru x M' fun k => Q k M') E
theorem qt_truth (ha : QE X B W a ta) (he : ∀ whole, isTrue a X.env whole = (do let v ← whole; standAt a.pos; holding [v] (truthy v)) := by intro _; rfl) : QT X B W a (aTruth ta) :=
  pt_imp (pt_truth ha he) fun s H R ⟨G, σ, M, Q, E, ss, h, k, kx⟩ => ⟨G, σ, M, _, E, ss, h, fun v H' ⟨d, M', G', e, m, r, q⟩ =>
    let ⟨b, h1, h2⟩ := tru_to m r q; ⟨b, h1, k b H' M' G' e m h2⟩, kx⟩
/-- of a test's kind: not, and, or -/
@[simp] def aNotT (t : AT) : AT := fun σ M Q E => t σ M (fun b M' => Q (!b) M') E
theorem qt_not (ht : QT X B W a tt) : QT X B W (.UnaryOp .Not a pos) (aNotT tt) :=
  pt_imp (pt_not ht) fun s H R ⟨G, σ, M, Q, E, ss, h, k, kx⟩ => ⟨G, σ, M, _, E, ss, h, fun b H' M' G' e m q => k (!b) H' M' G' e m q, kx⟩
end
end HA
/-! A3: and, or, if-else, displays, items, slices, fields, built-in calls and methods, over trees. -/
namespace HA
open PySem PySem.Spec L2

section
variable {X : Cx} {B : Hp} {W : WX} {a b c e o i : Expr} {es rest : List Expr} {ta tb tc te : AE} {tt tu : AT} {tas : AA} {pos : Pos}
/-! ### and, or -/
@[simp] def aAndT (t u : AT) : AT := fun σ M Q E => t σ M (fun b M1 => (b = true → u σ M1 Q E) ∧ (b = false → Q false M1)) E
@[simp] def aOrT (t u : AT) : AT := fun σ M Q E => t σ M (fun b M1 => (b = true → Q true M1) ∧ (b = false → u σ M1 Q E)) E
abbrev QW (X : Cx) (B : Hp) (W : WX) (e : Expr) (t : AT) : Prop := PW X e (LT X.K B W t)
theorem qw_and1 (ha : QT X B W a tt) : QW X B W (.BoolOp .And [a] pos) tt := pw_and1 ha
theorem qw_or1 (ha : QT X B W a tt) : QW X B W (.BoolOp .Or [a] pos) tt := pw_or1 ha
theorem qw_and (ha : QT X B W a tt) (hb : QW X B W (.BoolOp .And (b :: rest) pos) tu) : QW X B W (.BoolOp .And (a :: b :: rest) pos) (aAndT tt tu) :=
  pw_imp (pw_and ha hb) fun s H R ⟨G, σ, M, Q, E, ss, h, k, kx⟩ => ⟨G, σ, M, _, E, ss, h, fun b H1 M1 G1 e m q => by
    cases b with
    | true => exact iteT ⟨G1, σ, M1, Q, E, ss.with e m, q.1 rfl, fun b H2 M2 G2 e2 m2 q2 => k b H2 M2 G2 (e.trans e2) m2 q2, kx⟩
    | false => exact iteF (k false H1 M1 G1 e m (q.2 rfl)), kx⟩
theorem qw_or (ha : QT X B W a tt) (hb : QW X B W (.BoolOp .Or (b :: rest) pos) tu) : QW X B W (.BoolOp .Or (a :: b :: rest) pos) (aOrT tt tu) :=
  pw_imp (pw_or ha hb) fun s H R ⟨G, σ, M, Q, E, ss, h, k, kx⟩ => ⟨G, σ, M, _, E, ss, h, fun b H1 M1 G1 e m q => by
    cases b with
    | false => exact iteF ⟨G1, σ, M1, Q, E, ss.with e m, q.2 rfl, fun b H2 M2 G2 e2 m2 q2 => k b H2 M2 G2 (e.trans e2) m2 q2, kx⟩
    | true => exact iteT (k true H1 M1 G1 e m (q.1 rfl)), kx⟩
theorem qt_w (h : QW X B W e tt) : QT X B W e tt := h.pt
/-- as values -/
@[simp] def aAndV (ta tb : AE) : AE := fun σ M Q E => ta σ M (fun x M1 => tru x M1 fun k => (k = true → tb σ M1 Q E) ∧ (k = false → Q x M1)) E
@[simp] def aOrV (ta tb : AE) : AE := fun σ M Q E => ta σ M (fun x M1 => tru x M1 fun k => (k = true → Q x M1) ∧ (k = false → tb σ M1 Q E)) E
@[simp] def aNotV (ta : AE) : AE := fun σ M Q E => ta σ M (fun x M1 => tru x M1 fun k => Q (.bl (!k)) M1) E
theorem qe_one {op} (h : QE X B W a ta) : QE X B W (.BoolOp op [a] pos) ta := pe_one h
end
end HA
namespace HA
open PySem PySem.Spec L2
section
variable {X : Cx} {B : Hp} {W : WX} {a b c e o i : Expr} {es rest : List Expr} {ta tb tc te : AE} {tt tu : AT} {tas : AA} {pos : Pos}
theorem qe_andV (ha : QE X B W a ta) (hb : QE X B W (.BoolOp .And (b :: rest) pos) tb) : QE X B W (.BoolOp .And (a :: b :: rest) pos) (aAndV ta tb) :=
  pe_imp (pe_andT ha hb) fun s H R ⟨G, σ, M, Q, E, ss, h, k, kx⟩ => ⟨G, σ, M, _, E, ss, h, fun v H1 ⟨x, M1, G1, e, m, r, q⟩ => by
    obtain ⟨b, h1, h2⟩ := tru_to m r q
    refine ⟨b, h1, ?_⟩
    cases b with
    | true => exact iteT ⟨G1, σ, M1, Q, E, ss.with e m, h2.1 rfl, fun v H2 kv => k v H2 (kv.lift e), kx⟩
    | false => exact iteF (k v H1 ((Kv.here m r (h2.2 rfl)).lift e)), kx⟩
theorem qe_orV (ha : QE X B W a ta) (hb : QE X B W (.BoolOp .Or (b :: rest) pos) tb) : QE X B W (.BoolOp .Or (a :: b :: rest) pos) (aOrV ta tb) :=
  pe_imp (pe_orT ha hb) fun s H R ⟨G, σ, M, Q, E, ss, h, k, kx⟩ => ⟨G, σ, M, _, E, ss, h, fun v H1 ⟨x, M1, G1, e, m, r, q⟩ => by
    obtain ⟨b, h1, h2⟩ := tru_to m r q
    refine ⟨b, h1, ?_⟩
    cases b with
    | false => exact iteF ⟨G1, σ, M1, Q, E, ss.with e m, h2.2 rfl, fun v H2 kv => k v H2 (kv.lift e), kx⟩
    | true => exact iteT (k v H1 ((Kv.here m r (h2.1 rfl)).lift e)), kx⟩
theorem qe_notV (ha : QE X B W a ta) : QE X B W (.UnaryOp .Not a pos) (aNotV ta) :=
  pe_imp (pe_notT ha) fun s H R ⟨G, σ, M, Q, E, ss, h, k, kx⟩ => ⟨G, σ, M, _, E, ss, h, fun v H1 ⟨x, M1, G1, e, m, r, q⟩ => by
    obtain ⟨b, h1, h2⟩ := tru_to m r q
    exact ⟨b, h1, k _ _ ((Kv.here m (.bl _) h2).lift e)⟩, kx⟩
@[simp] def aIfE (t : AT) (ta tb : AE) : AE := fun σ M Q E => t σ M (fun b M1 => (b = true → ta σ M1 Q E) ∧ (b = false → tb σ M1 Q E)) E
theorem qe_ifExp (hc : QT X B W c tt) (ha : QE X B W a ta) (hb : QE X B W b tb) : QE X B W (.IfExp c a b pos) (aIfE tt ta tb) :=
  pe_imp (pe_ifExp hc ha hb) fun s H R ⟨G, σ, M, Q, E, ss, h, k, kx⟩ => ⟨G, σ, M, _, E, ss, h, fun b H1 M1 G1 e m q => by
    cases b with
    | true => exact iteT ⟨G1, σ, M1, Q, E, ss.with e m, q.1 rfl, fun v H2 kv => k v H2 (kv.lift e), kx⟩
    | false => exact iteF ⟨G1, σ, M1, Q, E, ss.with e m, q.2 rfl, fun v H2 kv => k v H2 (kv.lift e), kx⟩, kx⟩
/-! ### unary -/
@[simp] def aNeg (ta : AE) : AE := fun σ M Q E => ta σ M (fun x M1 => match x with
  | .int i => Q (.int (-i)) M1
  | _ => False) E
theorem qe_neg (ha : QE X B W a ta) : QE X B W (.UnaryOp .USub a pos) (aNeg ta) :=
  pe_imp (pe_un un_neg ha) fun s H R ⟨G, σ, M, Q, E, ss, h, k, kx⟩ => ⟨G, σ, M, _, E, ss, h, fun v H1 ⟨x, M1, G1, e, m, r, q⟩ => by
    match x, q with
    | .int i, q => exact ⟨i, rp_int r, k _ _ ((Kv.here m (.int _) q).lift e)⟩, kx⟩
/-! ### argument lists, displays -/
@[simp] def aNil : AA := fun _ M Q _ => Q [] M
@[simp] def aCons (ta : AE) (tr : AA) : AA := fun σ M Q E => ta σ M (fun x M1 => tr σ M1 (fun xs M2 => Q (x :: xs) M2) E) E
theorem qa_nil : QA X B W [] aNil := pa_imp pa_nil fun s H R ⟨G, σ, M, Q, E, ss, h, k, kx⟩ => k [] H [] M G (Same.refl G) ss.mem .nil h
theorem qa_cons (ha : QE X B W e te) (hr : QA X B W es tas) (hs : starEach (e :: es) X.env = (false, eval e X.env) :: starEach es X.env := by rfl) : QA X B W (e :: es) (aCons te tas) :=
  pa_imp (pa_cons ha hr hs) fun s H R ⟨G, σ, M, Q, E, ss, h, k, kx⟩ => ⟨G, σ, M, _, E, ss, h, fun v H1 ⟨x, M1, G1, e, m, r, q⟩ =>
    ⟨G1, σ, M1, _, E, ss.with e m, q, fun vs H2 ds M2 G2 e2 m2 r2 q2 => k (v :: vs) H2 (x :: ds) M2 G2 (e.trans e2) m2 (.cons (r.up e2) r2) q2, kx⟩, kx⟩
@[simp] def aTup (t : AA) : AE := fun σ M Q E => t σ M (fun xs M1 => xs.length ≤ sizeLine ∧ Q (.tup xs) M1) E
@[simp] def aLst (t : AA) : AE := fun σ M Q E => t σ M (fun xs M1 => xs.length ≤ sizeLine ∧ ∀ p, M1 p = none → Q (.ref p) (mset M1 p (.lst xs))) E
theorem qe_tup {x1} (h : QA X B W es tas) : QE X B W (.Tuple es x1 pos) (aTup tas) :=
  pe_imp (pe_tup h) fun s H R ⟨G, σ, M, Q, E, ss, h, k, kx⟩ => ⟨G, σ, M, _, E, ss, h, fun vs H1 ds M1 G1 e m r q => ⟨by rw [← r.len]; exact q.1, fun p hp => Kv.tup m (fun v H' kv => k v H' (kv.lift e)) r hp q.2⟩, kx⟩
theorem qe_lst (h : QA X B W es tas) : QE X B W (.List es pos) (aLst tas) :=
  pe_imp (pe_lst h) fun s H R ⟨G, σ, M, Q, E, ss, h, k, kx⟩ => ⟨G, σ, M, _, E, ss, h, fun vs H1 ds M1 G1 e m r q => ⟨by rw [← r.len]; exact q.1, fun p hp => Kv.lst m (fun v H' kv => k v H' (kv.lift e)) r hp q.2⟩, kx⟩

/-! ### items -/
theorem atI_rp {K : PySem.W.Frag} {G : Hp} {ds : List D} {vs : List V} {i : Int} {d : D} (r : RpA K G ds vs) (h : atI ds i = some d) : ∃ v, atI vs i = some v ∧ Rp K G d v := by
  unfold atI at h ⊢
  rw [← r.len]
  cases e : ixN ds.length i with
  | none => rw [e] at h; cases h
  | some j =>
    rw [e] at h
    obtain ⟨v, h1, h2⟩ := r.get (i := j) (d := d) h
    exact ⟨v, h1, h2⟩
@[simp] def bIx : A2 := fun x y M Q => match x, y with
  | .tup xs, .int i => ∃ d, atI xs i = some d ∧ Q d M
  | .str z, .int i => z.length ≤ sizeLine ∧ ∃ c, atI z.cps.toList i = some c ∧ Q (.str ⟨#[c]⟩) M
  | x, .int i => ∃ xs d, LsAt M x xs ∧ atI xs i = some d ∧ Q d M
  | _, _ => False
theorem bIx_ok {K : PySem.W.Frag} : OkR K bIx (rIx K) := fun G M H x y xv yv Q R m rx ry h k => by
  unfold bIx at h
  split at h
  · obtain ⟨d, h1, h2⟩ := h
    obtain ⟨a, vs, rfl, p, t⟩ := rp_tup rx
    obtain ⟨v, e, r⟩ := atI_rp t h1
    cases ry
    exact .inr (.inl ⟨a, vs, _, v, rfl, rfl, same_sqt m.same p, e, k _ _ (.here m r h2)⟩)
  · obtain ⟨hz, c, h1, h2⟩ := h
    cases rx; cases ry
    exact .inr (.inr ⟨_, _, c, rfl, rfl, hz, h1, k _ _ (.here m (.str _) h2)⟩)
  · obtain ⟨xs, d, h1, h2, h3⟩ := h
    cases ry
    refine lsAt m rx h1 fun a vs e p t => ?_
    obtain ⟨v, e2, r⟩ := atI_rp t h2
    exact .inl ⟨a, vs, _, v, e, rfl, p, e2, k _ _ (.here m r h3)⟩
  · exact h.elim
theorem qe_ix (ha : QE X B W a ta) (hb : QE X B W b tb) (hs : PlainIx b := by exact fun _ _ => rfl) : QE X B W (.Subscript a b pos) (aOp bIx ta tb) :=
  pe_imp (pe_ix ix_seq ha hb hs) fun _ _ _ h => lift_op bIx_ok h

/-! ### slices -/
abbrev AO := AS → Mem → (Option Int → Mem → Prop) → AXs → Prop
def LO (K : PySem.W.Frag) (B : Hp) (W : WX) (t : AO) : TO := fun s H R => ∃ G σ M Q E, SS K B G σ M s H ∧ t σ M Q E ∧ (∀ o H' M' G', Same G G' → SM K G' M' H' → Q o M' → R o H') ∧ ∀ c d s' H', Wx K B E c d s' H' → W c d s' H'
theorem po_imp {e : Option Expr} {t t' : TO} (h : PO X e t) (k : ∀ σ H Q, t' σ H Q → t σ H Q) : PO X e t' := ⟨fun pins s σ H Q I q => h.run pins s σ H Q I (k σ H Q q)⟩
abbrev QO (X : Cx) (B : Hp) (W : WX) (e : Option Expr) (t : AO) : Prop := PO X e (LO X.K B W t)
@[simp] def aNoPart : AO := fun _ M Q _ => Q none M
@[simp] def aPart (t : AE) : AO := fun σ M Q E => t σ M (fun x M1 => match x with
  | .int i => Q (some i) M1
  | _ => False) E
theorem qo_none : QO X B W none aNoPart := po_imp po_none fun s H R ⟨G, σ, M, Q, E, ss, h, k, kx⟩ => k none H M G (Same.refl G) ss.mem h
theorem qo_some (h : QE X B W e te) : QO X B W (some e) (aPart te) := po_imp (po_some h) fun s H R ⟨G, σ, M, Q, E, ss, h, k, kx⟩ => ⟨G, σ, M, _, E, ss, h, fun v H1 ⟨x, M1, G1, e, m, r, q⟩ => by
  match x, q with
  | .int i, q => exact ⟨i, rp_int r, k _ _ M1 G1 e m q⟩, kx⟩
/-- the items of xs[lo:hi] -/
def cut {α : Type} (xs : List α) (lo hi : Option Int) : List α := (xs.drop (HT.sIx xs.length 0 lo)).take (HT.sIx xs.length xs.length hi - HT.sIx xs.length 0 lo)
theorem cut_rp {K : PySem.W.Frag} {G : Hp} {ds : List D} {vs : List V} (r : RpA K G ds vs) (lo hi : Option Int) : RpA K G (cut ds lo hi) (cutV vs lo hi) := by
  unfold cut cutV
  rw [r.len]
  exact (r.drop _).take _
theorem sIx_le {n d : Nat} (hd : d ≤ n) (o : Option Int) : HT.sIx n d o ≤ n := HT.sIx_le n d hd o
theorem cut_whole {α : Type} {xs : List α} {lo hi : Option Int} (h : HT.sIx xs.length 0 lo = 0 ∧ HT.sIx xs.length xs.length hi = xs.length) : cut xs lo hi = xs := by
  unfold cut
  rw [h.1, h.2]
  simp
@[simp] def sSl (x : D) (lo hi : Option Int) (M : Mem) (Q : DK) : Prop := match x with
  | .tup xs => Q (.tup (cut xs lo hi)) M
  | .str z => z.length ≤ sizeLine ∧ Q (.str (cutS z lo hi)) M
  | x => ∃ xs, LsAt M x xs ∧ ∀ p, M p = none → Q (.ref p) (mset M p (.lst (cut xs lo hi)))
@[simp] def aSl (te : AE) (tl th : AO) : AE := fun σ M Q E => te σ M (fun x M1 => tl σ M1 (fun l M2 => th σ M2 (fun u M3 => sSl x l u M3 Q) E) E) E
end
end HA
namespace HA
open PySem PySem.Spec L2
section
variable {X : Cx} {B : Hp} {W : WX} {a b c e o i : Expr} {es rest : List Expr} {ta tb tc te : AE} {tt tu : AT} {tas : AA} {tl th : AO} {lo hi : Option Expr} {pos p2 : Pos}
def rSlAll (K : PySem.W.Frag) : V → Option Int → Option Int → Hp → VK → Prop := fun x lo hi H Q => (rSlA K x lo hi H Q ∨ rSlS x lo hi H Q) ∨ rSlL K x lo hi H Q
theorem sl_all : SlR X (rSlAll X.K) := (sl_tupA.or sl_str).or sl_list
theorem sSl_ok {K : PySem.W.Frag} {G H : Hp} {M : Mem} {x : D} {v : V} {l h : Option Int} {Q : DK} {R : VK} (m : SM K G M H) (r : Rp K G x v) (q : sSl x l h M Q) (k : ∀ v H', Kv K G Q v H' → R v H') : rSlAll K v l h H R := by
  unfold sSl at q
  split at q
  · obtain ⟨a, vs, rfl, p, t⟩ := rp_tup r
    refine .inl (.inl ⟨a, vs, rfl, same_sqt m.same p, fun z => ?_, fun _ p hp => Kv.tup m k (cut_rp t l h) hp q⟩)
    rw [← t.len] at z
    rw [cut_whole z] at q
    exact k _ _ (.here m r q)
  · cases r
    exact .inl (.inr ⟨_, rfl, q.1, k _ _ (.here m (.str _) q.2)⟩)
  · obtain ⟨xs, h1, h2⟩ := q
    refine lsAt m r h1 fun a vs e p t => ?_
    exact .inr ⟨a, vs, e, p, fun p hp => Kv.lst m k (cut_rp t l h) hp h2⟩
theorem qe_slice (he : QE X B W e te) (hl : QO X B W lo tl) (hu : QO X B W hi th) : QE X B W (.Subscript e (.Slice lo hi none p2) pos) (aSl te tl th) :=
  pe_imp (pe_slice sl_all he hl hu) fun s H R ⟨G, σ, M, Q, E, ss, h, k, kx⟩ => by
    refine ⟨G, σ, M, _, E, ss, h, fun v H1 ⟨x, M1, G1, e1, m1, r1, q1⟩ => ?_, kx⟩
    refine ⟨G1, σ, M1, _, E, ss.with e1 m1, q1, fun l H2 M2 G2 e2 m2 q2 => ?_, kx⟩
    refine ⟨G2, σ, M2, _, E, (ss.with e1 m1).with e2 m2, q2, fun u H3 M3 G3 e3 m3 q3 => ?_, kx⟩
    exact sSl_ok m3 ((r1.up e2).up e3) q3 fun v H' kv => k v H' (kv.lift (e1.trans (e2.trans e3)))
/-! ### xs[::-1] of a list -/
@[simp] def aRevL (te : AE) : AE := fun σ M Q E => te σ M (fun x M1 => ∃ xs, LsAt M1 x xs ∧ ∀ p, M1 p = none → Q (.ref p) (mset M1 p (.lst xs.reverse))) E
theorem qe_revL {j : Nat} {p1 q1 p3 : Pos} (he : QE X B W e te) : QE X B W (.Subscript e (.Slice none none (some (.UnaryOp .USub (.Constant (.int 1) j p1) q1)) p3) pos) (aRevL te) :=
  pe_imp (pe_revL he) fun s H R ⟨G, σ, M, Q, E, ss, h, k, kx⟩ => ⟨G, σ, M, _, E, ss, h, fun v H1 ⟨x, M1, G1, e1, m1, r1, xs, h1, h2⟩ =>
    lsAt m1 r1 h1 fun a vs e p t => ⟨a, vs, e, p, fun p hp => Kv.lst m1 (fun v H' kv => k v H' (kv.lift e1)) t.reverse hp h2⟩, kx⟩

/-! ### a call of a built-in by values -/
abbrev AC := List D → Mem → DK → Prop
def OkC (K : PySem.W.Frag) (r : AC) (rc : List V → Hp → VK → Prop) : Prop := ∀ G M H xs vs Q R, SM K G M H → RpA K G xs vs → r xs M Q → (∀ v H', Kv K G Q v H' → R v H') → rc vs H R
@[simp] def aCB (r : AC) (t : AA) : AE := fun σ M Q E => t σ M (fun xs M1 => r xs M1 Q) E
def CallB (X : Cx) (id : String) (r : AC) : Prop := ∃ rc, CallR X (.builtin id) rc ∧ OkC X.K r rc
def CallT (X : Cx) (T : String) (r : AC) : Prop := ∃ rc, CallR X (.type T) rc ∧ OkC X.K r rc
theorem lift_cb {K : PySem.W.Frag} {r : AC} {rc : List V → Hp → VK → Prop} (ok : OkC K r rc) {s : L2.St} {H : Hp} {R : VK} (h : LE K B W (aCB r tas) s H R) : tCB rc (LA K B W tas) s H R := by
  obtain ⟨G, σ, M, Q, E, ss, h, k, kx⟩ := h
  exact ⟨G, σ, M, _, E, ss, h, fun vs H1 ds M1 G1 e m t q => ok G1 M1 H1 ds vs Q R m t q fun v H2 kv => k v H2 (kv.lift e), kx⟩
theorem qe_callB {x : Str} {id : String} {r : AC} {p : Pos} (o : CallB X id r) (hg : Gl X x) (hm : X.mg x = none) (hv : bootBuiltins x = some (.builtin id)) (ha : QA X B W (e :: es) tas) (hn : x ≠ "__name__" := by decide) (hdb : (x == ("__debug__" : Str)) = false := by decide)
    (he : starEach (e :: es) X.env = (false, eval e X.env) :: starEach es X.env := by rfl) (hpl : (backTo pos (starEach es X.env)).any (·.1) = false := by rfl) : QE X B W (.Call (.Name x p) (e :: es) [] pos) (aCB r tas) := by
  obtain ⟨rc, ho, ok⟩ := o
  exact pe_imp (pe_callB ho hg hm hv ha hn hdb he hpl) fun _ _ _ h => lift_cb ok h
theorem qe_callT {x : Str} {T : String} {r : AC} {p : Pos} (o : CallT X T r) (hg : Gl X x) (hm : X.mg x = none) (hv : bootBuiltins x = some (.type T)) (ha : QA X B W (e :: es) tas) (hn : x ≠ "__name__" := by decide) (hdb : (x == ("__debug__" : Str)) = false := by decide)
    (he : starEach (e :: es) X.env = (false, eval e X.env) :: starEach es X.env := by rfl) (hpl : (backTo pos (starEach es X.env)).any (·.1) = false := by rfl) : QE X B W (.Call (.Name x p) (e :: es) [] pos) (aCB r tas) := by
  obtain ⟨rc, ho, ok⟩ := o
  exact pe_imp (pe_callTy ho hg hm hv ha hn hdb he hpl) fun _ _ _ h => lift_cb ok h
section
variable {K : PySem.W.Frag} {G : Hp}
theorem rpa1 {x : D} {vs : List V} (h : RpA K G [x] vs) : ∃ v, vs = [v] ∧ Rp K G x v := by cases h with | cons h t => cases t; exact ⟨_, rfl, h⟩
theorem rpa2 {x y : D} {vs : List V} (h : RpA K G [x, y] vs) : ∃ v w, vs = [v, w] ∧ Rp K G x v ∧ Rp K G y w := by
  cases h with | cons h t => obtain ⟨w, rfl, r⟩ := rpa1 t; exact ⟨_, w, rfl, h, r⟩
end
/-- one int in, an int out -/
@[simp] def c1I (f : Int → Int) : AC := fun xs M Q => match xs with
  | [.int i] => Q (.int (f i)) M
  | _ => False
def absI (i : Int) : Int := if i < 0 then -i else i
theorem cb_abs : CallB X "abs" (c1I absI) := ⟨_, call_abs, fun G M H xs vs Q R m r h k => by
  match xs, h with
  | [.int i], h => obtain ⟨v, rfl, rv⟩ := rpa1 r; cases rv; exact ⟨i, rfl, k _ _ (.here m (.int _) h)⟩⟩
@[simp] def cInt : AC := fun xs M Q => match xs with
  | [.int i] => Q (.int i) M
  | [.bl k] => Q (.int (if k then 1 else 0)) M
  | _ => False
theorem ct_int : CallT X "int" cInt := ⟨_, call_int1, fun G M H xs vs Q R m r h k => by
  match xs, h with
  | [.int i], h => obtain ⟨v, rfl, rv⟩ := rpa1 r; cases rv; exact .inl ⟨i, rfl, k _ _ (.here m (.int _) h)⟩
  | [.bl i], h => obtain ⟨v, rfl, rv⟩ := rpa1 r; cases rv; exact .inr ⟨i, rfl, k _ _ (.here m (.int _) h)⟩⟩
@[simp] def cLen : AC := fun xs M Q => match xs with
  | [.tup ys] => Q (.int ys.length) M
  | [.str z] => z.length ≤ sizeLine ∧ Q (.int z.length) M
  | [x] => ∃ ys, LsAt M x ys ∧ Q (.int ys.length) M
  | _ => False
theorem cb_len : CallB X "len" cLen := ⟨_, call_len, fun G M H xs vs Q R m r h k => by
  unfold cLen at h
  split at h
  · obtain ⟨v, rfl, rv⟩ := rpa1 r
    obtain ⟨a, ws, rfl, p, t⟩ := rp_tup rv
    exact ⟨_, ws.length, rfl, .inr ⟨ws, same_sqt m.same p, rfl⟩, k _ _ (.here m (by rw [← t.len]; exact .int _) h)⟩
  · obtain ⟨v, rfl, rv⟩ := rpa1 r
    cases rv
    exact ⟨_, _, rfl, ⟨h.1, rfl⟩, k _ _ (.here m (.int _) h.2)⟩
  · obtain ⟨v, rfl, rv⟩ := rpa1 r
    obtain ⟨ys, h1, h2⟩ := h
    refine lsAt m rv h1 fun a ws e p t => ?_
    subst e
    exact ⟨_, ws.length, rfl, .inl ⟨ws, p, rfl⟩, k _ _ (.here m (by rw [← t.len]; exact .int _) h2)⟩
  · exact h.elim⟩
/-- min, max of two ints -/
@[simp] def c2I (f : Int → Int → Int) : AC := fun xs M Q => match xs with
  | [.int i, .int j] => Q (.int (f i j)) M
  | _ => False
theorem cb_max (hc : X.calm = true) : CallB X "max" (c2I fun i j => if j > i then j else i) := ⟨_, call_max2 hc, fun G M H xs vs Q R m r h k => by
  match xs, h with
  | [.int i, .int j], h => obtain ⟨v, w, rfl, r1, r2⟩ := rpa2 r; cases r1; cases r2; exact ⟨i, j, rfl, k _ _ (.here m (.int _) h)⟩⟩
theorem cb_min (hc : X.calm = true) : CallB X "min" (c2I fun i j => if j < i then j else i) := ⟨_, call_min2 hc, fun G M H xs vs Q R m r h k => by
  match xs, h with
  | [.int i, .int j], h => obtain ⟨v, w, rfl, r1, r2⟩ := rpa2 r; cases r1; cases r2; exact ⟨i, j, rfl, k _ _ (.here m (.int _) h)⟩⟩
/-- tuple(list), tuple(tuple); list(..) -/
@[simp] def cTuple : AC := fun xs M Q => match xs with
  | [.tup ys] => Q (.tup ys) M
  | [x] => ∃ ys, LsAt M x ys ∧ Q (.tup ys) M
  | _ => False
theorem ct_tuple : CallT X "tuple" cTuple := ⟨_, call_tuple_of, fun G M H xs vs Q R m r h k => by
  unfold cTuple at h
  split at h
  · obtain ⟨v, rfl, rv⟩ := rpa1 r
    obtain ⟨a, ws, rfl, p, t⟩ := rp_tup rv
    exact ⟨a, ws, rfl, .inr ⟨same_sqt m.same p, k _ _ (.here m rv h)⟩⟩
  · obtain ⟨v, rfl, rv⟩ := rpa1 r
    obtain ⟨ys, h1, h2⟩ := h
    refine lsAt m rv h1 fun a ws e p t => ?_
    subst e
    exact ⟨a, ws, rfl, .inl ⟨p, fun l hl => Kv.tup m k t hl h2⟩⟩
  · exact h.elim⟩
@[simp] def cList : AC := fun xs M Q => match xs with
  | [.tup ys] => ∀ p, M p = none → Q (.ref p) (mset M p (.lst ys))
  | [x] => ∃ ys, LsAt M x ys ∧ ∀ p, M p = none → Q (.ref p) (mset M p (.lst ys))
  | _ => False
theorem ct_list : CallT X "list" cList := ⟨_, call_list_of, fun G M H xs vs Q R m r h k => by
  unfold cList at h
  split at h
  · obtain ⟨v, rfl, rv⟩ := rpa1 r
    obtain ⟨a, ws, rfl, p, t⟩ := rp_tup rv
    exact ⟨a, ws, rfl, .inr (same_sqt m.same p), fun l hl => Kv.lst m k t hl h⟩
  · obtain ⟨v, rfl, rv⟩ := rpa1 r
    obtain ⟨ys, h1, h2⟩ := h
    refine lsAt m rv h1 fun a ws e p t => ?_
    subst e
    exact ⟨a, ws, rfl, .inl p, fun l hl => Kv.lst m k t hl h2⟩
  · exact h.elim⟩
def cSum : AC := fun xs M Q => match xs with
  | [x] => ∃ ns : List Int, (x = .tup (ns.map D.int) ∨ LsAt M x (ns.map D.int)) ∧ Q (.int ns.sum) M
  | _ => False

/-! ### methods of lists by values -/
abbrev AM := D → List D → Mem → DK → Prop
def OkM (K : PySem.W.Frag) (T : String) (r : AM) (rc : V → List V → Hp → VK → Prop) : Prop :=
  (∀ G M H x xs xv vs Q R, SM K G M H → Rp K G x xv → RpA K G xs vs → r x xs M Q → (∀ v H', Kv K G Q v H' → R v H') → tyV K T xv H ∧ rc xv vs H R)
@[simp] def aMt0 (r : AM) (to : AE) : AE := fun σ M Q E => to σ M (fun x M1 => r x [] M1 Q) E
/-- the receiver is a list already ahead of the arguments -/
def isLs (M : Mem) (x : D) : Prop := ∃ xs, LsAt M x xs
@[simp] def aMt (r : AM) (to : AE) (t : AA) : AE := fun σ M Q E => to σ M (fun x M1 => isLs M1 x ∧ t σ M1 (fun xs M2 => r x xs M2 Q) E) E
theorem tyV_lst {K : PySem.W.Frag} {G H : Hp} {M : Mem} {x : D} {v : V} (m : SM K G M H) (r : Rp K G x v) (h : isLs M x) : tyV K "list" v H := by
  obtain ⟨xs, h⟩ := h
  refine lsAt m r h fun a vs e p t => ?_
  subst e
  exact .inl ⟨rfl, vs, p⟩
end
end HA
namespace HA
open PySem PySem.Spec L2
section
variable {X : Cx} {B : Hp} {W : WX} {a b c e o i : Expr} {es rest : List Expr} {ta tb tc te : AE} {tt tu : AT} {tas : AA} {tl th : AO} {lo hi : Option Expr} {pos p2 apos cpos : Pos}
def OkMt (K : PySem.W.Frag) (r : AM) (rc : V → List V → Hp → VK → Prop) : Prop := ∀ G M H x xs xv vs Q R, SM K G M H → Rp K G x xv → RpA K G xs vs → r x xs M Q → (∀ v H', Kv K G Q v H' → R v H') → rc xv vs H R
theorem qe_lm0 {name : Str} {id : String} {r : AM} {rc : V → List V → Hp → VK → Prop} (slot : Slot "list" name id) (hty : typeOf (.builtin id) = pure (.type "method_descriptor")) (hm : MtR X id rc) (ok : OkMt X.K r rc) (il : ∀ x M Q, r x [] M Q → isLs M x) (ho : QE X B W o ta)
    (hbase : attributeBase o name X.env (eval o X.env) = eval o X.env := by rfl) (hline : (apos.endLine == cpos.line) = true := by rfl) : QE X B W (.Call (.Attribute o name apos) [] [] cpos) (aMt0 r ta) :=
  pe_imp (pe_bm0 PySem.F.plainAttrs_list slot hty hm ho hbase hline) fun s H R ⟨G, σ, M, Q, E, ss, h, k, kx⟩ => ⟨G, σ, M, _, E, ss, h, fun v H1 ⟨x, M1, G1, e, m, rx, q⟩ =>
    ⟨tyV_lst m rx (il x M1 Q q), ok G1 M1 H1 x [] v [] Q R m rx .nil q fun v H2 kv => k v H2 (kv.lift e)⟩, kx⟩
theorem qe_lm {name : Str} {id : String} {r : AM} {rc : V → List V → Hp → VK → Prop} (slot : Slot "list" name id) (hty : typeOf (.builtin id) = pure (.type "method_descriptor")) (hm : MtR X id rc) (ok : OkMt X.K r rc) (ho : QE X B W o ta) (ha : QA X B W (e :: es) tas)
    (hbase : attributeBase o name X.env (eval o X.env) = eval o X.env := by rfl)
    (hfew : ((backTo cpos (starEach (e :: es) X.env)).all (fun x => !x.1) && (backToKw cpos (keywordEach [] X.env)).all (fun x => x.1.isSome)
      && decide ((e :: es).length + ([] : List Keyword).length + (if ([] : List Keyword).isEmpty then 0 else 1) < 30)) = true := by rfl)
    (hline : (apos.endLine == cpos.line) = true := by rfl) (hs : starEach (e :: es) X.env = (false, eval e X.env) :: starEach es X.env := by rfl) (hplain : (backTo cpos (starEach es X.env)).any (·.1) = false := by rfl) :
    QE X B W (.Call (.Attribute o name apos) (e :: es) [] cpos) (aMt r ta tas) :=
  pe_imp (pe_bm PySem.F.plainAttrs_list slot hty hm ho ha hbase hfew hline hs hplain) fun s H R ⟨G, σ, M, Q, E, ss, h, k, kx⟩ => ⟨G, σ, M, _, E, ss, h, fun v H1 ⟨x, M1, G1, e1, m1, rx, q⟩ =>
    ⟨tyV_lst m1 rx q.1, G1, σ, M1, _, E, ss.with e1 m1, q.2, fun vs H2 xs M2 G2 e2 m2 ra q2 => ok G2 M2 H2 x xs v vs Q R m2 (rx.up e2) ra q2 fun v H3 kv => k v H3 (kv.lift (e1.trans e2)), kx⟩, kx⟩
/-- a cell's list is replaced -/
theorem Kv.wr {K : PySem.W.Frag} {G H : Hp} {M : Mem} {Q : DK} {R : VK} {p : Addr} {xs ys : List D} {vs : List V} {d : D} {v : V} (m : SM K G M H) (k : ∀ v H', Kv K G Q v H' → R v H') (h : M p = some (.lst xs)) (r : RpA K G ys vs) (rv : Rp K G d v) (q : Q d (mset M p (.lst ys))) : R v (upd H p (.lst vs)) :=
  k _ _ ⟨d, mset M p (.lst ys), G, Same.refl G, m.write h ⟨vs, r, upd_same⟩, rv, q⟩
theorem cellL {K : PySem.W.Frag} {G H : Hp} {M : Mem} {p : Addr} {xs : List D} (m : SM K G M H) (h : M p = some (.lst xs)) : ∃ vs, RpA K G xs vs ∧ H p = some (.lst vs) := (m.cell p _ h).2
/-- xs.append(e) -/
@[simp] def mAppend : AM := fun x ys M Q => match x, ys with
  | .ref p, [y] => ∃ xs, M p = some (.lst xs) ∧ xs.length < sizeLine ∧ Q .non (mset M p (.lst (xs ++ [y])))
  | _, _ => False
theorem mAppend_ok {K : PySem.W.Frag} : OkMt K mAppend rAppend := fun G M H x xs xv vs Q R m rx ra h k => by
  unfold mAppend at h
  split at h
  · obtain ⟨ys, h1, h2, h3⟩ := h
    obtain ⟨v, rfl, r⟩ := rpa1 ra
    cases rx
    obtain ⟨ws, t, e⟩ := cellL m h1
    exact ⟨_, ws, v, rfl, rfl, e, by rw [← t.len]; exact h2, Kv.wr m k h1 (t.app (.cons r .nil)) .non h3⟩
  · exact h.elim
theorem qe_append (ho : QE X B W o ta) (ha : QA X B W [e] tas)
    (hbase : attributeBase o "append" X.env (eval o X.env) = eval o X.env := by rfl)
    (hfew : ((backTo cpos (starEach [e] X.env)).all (fun x => !x.1) && (backToKw cpos (keywordEach [] X.env)).all (fun x => x.1.isSome)
      && decide (([e] : List Expr).length + ([] : List Keyword).length + (if ([] : List Keyword).isEmpty then 0 else 1) < 30)) = true := by rfl)
    (hline : (apos.endLine == cpos.line) = true := by rfl) (hs : starEach [e] X.env = (false, eval e X.env) :: starEach [] X.env := by rfl) (hplain : (backTo cpos (starEach [] X.env)).any (·.1) = false := by rfl) :
    QE X B W (.Call (.Attribute o "append" apos) [e] [] cpos) (aMt mAppend ta tas) := qe_lm PySem.F.slot_list_append PySem.F.type_list_append mt_append mAppend_ok ho ha hbase hfew hline hs hplain
/-- xs.extend(list or tuple) -/
@[simp] def mExtend : AM := fun x ys M Q => match x, ys with
  | .ref p, [y] => ∃ xs zs, M p = some (.lst xs) ∧ LstAt M y zs ∧ xs.length + zs.length ≤ sizeLine ∧ Q .non (mset M p (.lst (xs ++ zs)))
  | _, _ => False
theorem mExtend_ok {K : PySem.W.Frag} : OkMt K mExtend rExtend := fun G M H x xs xv vs Q R m rx ra h k => by
  unfold mExtend at h
  split at h
  · obtain ⟨ys, zs, h1, h2, h3, h4⟩ := h
    obtain ⟨v, rfl, r⟩ := rpa1 ra
    cases rx
    obtain ⟨ws, t, e⟩ := cellL m h1
    refine lstAt m r h2 fun b us eb pb tb => ?_
    subst eb
    exact ⟨_, b, ws, us, rfl, rfl, e, pb, by rw [← t.len, ← tb.len]; exact h3, Kv.wr m k h1 (t.app tb) .non h4⟩
  · exact h.elim
theorem qe_extend (ho : QE X B W o ta) (ha : QA X B W [e] tas)
    (hbase : attributeBase o "extend" X.env (eval o X.env) = eval o X.env := by rfl)
    (hfew : ((backTo cpos (starEach [e] X.env)).all (fun x => !x.1) && (backToKw cpos (keywordEach [] X.env)).all (fun x => x.1.isSome)
      && decide (([e] : List Expr).length + ([] : List Keyword).length + (if ([] : List Keyword).isEmpty then 0 else 1) < 30)) = true := by rfl)
    (hline : (apos.endLine == cpos.line) = true := by rfl) (hs : starEach [e] X.env = (false, eval e X.env) :: starEach [] X.env := by rfl) (hplain : (backTo cpos (starEach [] X.env)).any (·.1) = false := by rfl) :
    QE X B W (.Call (.Attribute o "extend" apos) [e] [] cpos) (aMt mExtend ta tas) := qe_lm PySem.F.slot_list_extend PySem.F.type_list_extend mt_extend mExtend_ok ho ha hbase hfew hline hs hplain
/-- xs.pop() -/
@[simp] def mPop : AM := fun x ys M Q => match x, ys with
  | .ref p, [] => ∃ xs y, M p = some (.lst xs) ∧ xs[xs.length - 1]? = some y ∧ Q y (mset M p (.lst xs.dropLast))
  | _, _ => False
theorem mPop_ok {K : PySem.W.Frag} : OkMt K mPop rPop := fun G M H x xs xv vs Q R m rx ra h k => by
  unfold mPop at h
  split at h
  · obtain ⟨ys, y, h1, h2, h3⟩ := h
    cases ra
    cases rx
    obtain ⟨ws, t, e⟩ := cellL m h1
    obtain ⟨v, hv, rv⟩ := t.get h2
    exact ⟨_, ws, v, rfl, rfl, e, by rw [← t.len]; exact hv, Kv.wr m k h1 t.dropLast rv h3⟩
  · exact h.elim
theorem qe_pop (ho : QE X B W o ta) (hbase : attributeBase o "pop" X.env (eval o X.env) = eval o X.env := by rfl) (hline : (apos.endLine == cpos.line) = true := by rfl) :
    QE X B W (.Call (.Attribute o "pop" apos) [] [] cpos) (aMt0 mPop ta) := qe_lm0 PySem.F.slot_list_pop PySem.F.type_list_pop mt_pop mPop_ok (fun x M Q h => by
      unfold mPop at h
      split at h
      · obtain ⟨xs, y, h1, _⟩ := h; exact ⟨xs, h1⟩
      · exact h.elim) ho hbase hline

/-! ### fields of instances -/
@[simp] def fGet (K : PySem.W.Frag) (f : Str) (x : D) (M : Mem) (Q : DK) : Prop := match x with
  | .ref a => ∃ C fs d, M a = some (.ins C fs) ∧ Cls K C ∧ NoAttr K C f ∧ fs.lookup f = some d ∧ Q d M
  | _ => False
@[simp] def aFld (K : PySem.W.Frag) (ta : AE) (f : Str) : AE := fun σ M Q E => ta σ M (fun x M1 => fGet K f x M1 Q) E
theorem qe_fld {f : Str} (he : QE X B W e te) (hb : attributeBase e f X.env (eval e X.env) = eval e X.env := by rfl) : QE X B W (.Attribute e f pos) (aFld X.K te f) :=
  pe_imp (pe_fld he hb) fun s H R ⟨G, σ, M, Q, E, ss, h, k, kx⟩ => ⟨G, σ, M, _, E, ss, h, fun v H1 ⟨x, M1, G1, e, m, r, q⟩ => by
    match x, q with
    | .ref a, q =>
      obtain ⟨C, fs, d, h1, cl, na, h2, h3⟩ := q
      obtain ⟨_, dx, vs, fr, eH⟩ := m.cell a _ h1
      obtain ⟨w, hw, rw'⟩ := fr.look h2
      cases r
      exact ⟨a, C, dx, vs, w, rfl, eH, cl, na, hw, k _ _ ((Kv.here m rw' h3).lift e)⟩, kx⟩
end
end HA
/-! A4: targets, statements, loops, comprehensions over trees. -/
namespace HA
open PySem PySem.Spec L2

structure AEn where
  nx : AS → Mem → Prop
  rt : DK
  bk : AS → Mem → Prop := fun _ _ => False
  ct : AS → Mem → Prop := fun _ _ => False
  xx : AXs
abbrev ASt := AEn → AS → Mem → Prop
def LS (K : PySem.W.Frag) (B : Hp) (W : WX) (t : ASt) : TS := fun Dc s H => ∃ G σ M D, SS K B G σ M s H ∧ t D σ M ∧
  (∀ s' H' σ' M' G', Same G G' → SS K B G' σ' M' s' H' → D.nx σ' M' → Dc.nx s' H') ∧ (∀ v H', Kv K G D.rt v H' → Dc.rt v H') ∧
  (∀ s' H' σ' M' G', Same G G' → SS K B G' σ' M' s' H' → D.bk σ' M' → Dc.bk s' H') ∧ (∀ s' H' σ' M' G', Same G G' → SS K B G' σ' M' s' H' → D.ct σ' M' → Dc.ct s' H') ∧ ∀ c d s' H', Wx K B D.xx c d s' H' → W c d s' H'
abbrev QS (X : Cx) (B : Hp) (W : WX) (e : Stmt) (t : ASt) : Prop := PS X e (LS X.K B W t)
abbrev QSs (X : Cx) (B : Hp) (W : WX) (e : List Stmt) (t : ASt) : Prop := PSs X e (LS X.K B W t)

section
variable {X : Cx} {B : Hp} {W : WX} {a b c e o i : Expr} {es rest : List Expr} {ta tb tc te : AE} {tt tu : AT} {tas : AA} {pos pos' : Pos} {st : Stmt} {sts ss1 ss2 : List Stmt} {t u : ASt}
@[simp] def aNext : ASt := fun D σ M => D.nx σ M
@[simp] def aSeq (t u : ASt) : ASt := fun D σ M => t { D with nx := u D } σ M
theorem qss_nil : QSs X B W [] aNext := pss_imp pss_nil fun Dc s H ⟨G, σ, M, D, ss, h, kn, _⟩ => kn s H σ M G (Same.refl G) ss h
theorem qss_cons (h1 : QS X B W st t) (h2 : QSs X B W sts u) : QSs X B W (st :: sts) (aSeq t u) := pss_imp (pss_cons h1 h2) fun Dc s H ⟨G, σ, M, D, ss, h, kn, kr, kb, kc, kx⟩ =>
  ⟨G, σ, M, { D with nx := u D }, ss, h, fun s' H' σ' M' G' e ss' h' => ⟨G', σ', M', D, ss', h', fun a b c d f e' => kn a b c d f (e.trans e'), fun v H' kv => kr v H' (kv.lift e), fun a b c d f e' => kb a b c d f (e.trans e'), fun a b c d f e' => kc a b c d f (e.trans e'), kx⟩, kr, kb, kc, kx⟩
theorem qss_one (h1 : QS X B W st t) : QSs X B W [st] t := pss_one h1
theorem qs_pass : QS X B W (.Pass pos) aNext := ps_imp ps_pass fun Dc s H ⟨G, σ, M, D, ss, h, kn, _⟩ => kn s H σ M G (Same.refl G) ss h
@[simp] def aBreak : ASt := fun D σ M => D.bk σ M
@[simp] def aCont : ASt := fun D σ M => D.ct σ M
theorem qs_break : QS X B W (.Break pos) aBreak := ps_imp ps_break fun Dc s H ⟨G, σ, M, D, ss, h, kn, kr, kb, kc, kx⟩ => kb s H σ M G (Same.refl G) ss h
theorem qs_continue : QS X B W (.Continue pos) aCont := ps_imp ps_continue fun Dc s H ⟨G, σ, M, D, ss, h, kn, kr, kb, kc, kx⟩ => kc s H σ M G (Same.refl G) ss h
theorem qs_doc {x j} : QS X B W (.Expr (.Constant (.str x) j pos) pos') aNext := ps_imp ps_doc fun Dc s H ⟨G, σ, M, D, ss, h, kn, _⟩ => kn s H σ M G (Same.refl G) ss h
@[simp] def aDrop (te : AE) : ASt := fun D σ M => te σ M (fun _ M' => D.nx σ M') D.xx
theorem qs_expr (he : QE X B W e te) (hs : swapsWith e none pos.line X.env = pure false := by rfl) : QS X B W (.Expr e pos) (aDrop te) := ps_imp (ps_expr he hs) fun Dc s H ⟨G, σ, M, D, ss, h, kn, kr, kb, kc, kx⟩ =>
  ⟨G, σ, M, _, D.xx, ss, h, fun v H' ⟨d, M', G', e, m, r, q⟩ => kn s H' σ M' G' e (ss.with e m) q, kx⟩
@[simp] def aRet (te : AE) : ASt := fun D σ M => te σ M D.rt D.xx
theorem qs_ret (he : QE X B W e te) : QS X B W (.Return (some e) pos) (aRet te) := ps_imp (ps_ret he) fun Dc s H ⟨G, σ, M, D, ss, h, kn, kr, kb, kc, kx⟩ =>
  ⟨G, σ, M, D.rt, D.xx, ss, h, fun v H' kv => kr v H' kv, kx⟩
@[simp] def aRetN : ASt := fun D _ M => D.rt .non M
theorem qs_retN : QS X B W (.Return none pos) aRetN := ps_imp ps_retN fun Dc s H ⟨G, σ, M, D, ss, h, kn, kr, kb, kc, kx⟩ => kr _ _ (Kv.here ss.mem .non h)
@[simp] def aIf (tt : AT) (t u : ASt) : ASt := fun D σ M => tt σ M (fun b M1 => (b = true → t D σ M1) ∧ (b = false → u D σ M1)) D.xx
theorem qs_if (hc : QT X B W c tt) (h1 : QSs X B W ss1 t) (h2 : QSs X B W ss2 u) : QS X B W (.If c ss1 ss2 pos) (aIf tt t u) := ps_imp (ps_if hc h1 h2) fun Dc s H ⟨G, σ, M, D, ss, h, kn, kr, kb, kc, kx⟩ =>
  ⟨G, σ, M, _, D.xx, ss, h, fun b H1 M1 G1 e m q => by
    cases b with
    | true => exact iteT ⟨G1, σ, M1, D, ss.with e m, q.1 rfl, fun a b c d f e' => kn a b c d f (e.trans e'), fun v H' kv => kr v H' (kv.lift e), fun a b c d f e' => kb a b c d f (e.trans e'), fun a b c d f e' => kc a b c d f (e.trans e'), kx⟩
    | false => exact iteF ⟨G1, σ, M1, D, ss.with e m, q.2 rfl, fun a b c d f e' => kn a b c d f (e.trans e'), fun v H' kv => kr v H' (kv.lift e), fun a b c d f e' => kb a b c d f (e.trans e'), fun a b c d f e' => kc a b c d f (e.trans e'), kx⟩, kx⟩

/-! ### targets -/
abbrev AG := D → AS → Mem → (AS → Mem → Prop) → AXs → Prop
def KeepO (vs : List Nat) (s s' : List (Option V)) : Prop := s'.length = s.length ∧ ∀ j, j ∉ vs → s'[j]? = s[j]?
theorem KeepO.refl (vs : List Nat) (s : List (Option V)) : KeepO vs s s := ⟨rfl, fun _ _ => rfl⟩
theorem KeepO.trans {vs ws : List Nat} {s s' s'' : List (Option V)} (h : KeepO vs s s') (k : KeepO ws s' s'') : KeepO (vs ++ ws) s s'' := ⟨k.1.trans h.1, fun j hj => by
  rw [List.mem_append, not_or] at hj
  exact (k.2 j hj.2).trans (h.2 j hj.1)⟩
def LG (K : PySem.W.Frag) (B : Hp) (W : WX) (vs : List Nat) (t : AG) : TG := fun v s H R => ∃ G σ M d Q E, SS K B G σ M s H ∧ Rp K G d v ∧ t d σ M Q E ∧ (∀ s' H' σ' M' G', Same G G' → SS K B G' σ' M' s' H' → KeepO vs s s' → Q σ' M' → R s' H') ∧ ∀ c d s' H', Wx K B E c d s' H' → W c d s' H'
abbrev QG (X : Cx) (B : Hp) (W : WX) (vs : List Nat) (e : Expr) (t : AG) : Prop := PG X e (LG X.K B W vs t)
theorem pg_imp {e : Expr} {t t' : TG} (h : PG X e t) (k : ∀ v σ H Q, t' v σ H Q → t v σ H Q) : PG X e t' := ⟨fun pins s σ H v u Q I r q => h.run pins s σ H v u Q I r (k v σ H Q q)⟩
theorem pgs_imp {e : List Expr} {t t' : TGs} (h : PGs X e t) (k : ∀ v σ H Q, t' v σ H Q → t v σ H Q) : PGs X e t' := ⟨fun pins s σ H v u Q I r q => h.run pins s σ H v u Q I r (k v σ H Q q)⟩
theorem SS.set {K : PySem.W.Frag} {G : Hp} {σ : AS} {M : Mem} {s : List (Option V)} {H : Hp} {d : D} {v : V} (ss : SS K B G σ M s H) (j : Nat) (r : Rp K G d v) : SS K B G (σ.set j (some d)) M (s.set j (some v)) H :=
  ⟨ss.base, ss.mem, by simp [ss.len], fun k d' h => by
    by_cases hk : j = k
    · subst hk
      by_cases hl : j < σ.length
      · rw [List.getElem?_set_self hl] at h
        cases h
        exact ⟨v, by rw [List.getElem?_set_self (by rw [← ss.len]; exact hl)], r⟩
      · rw [List.getElem?_eq_none (by simp; omega)] at h
        cases h
    · rw [List.getElem?_set_ne hk] at h
      obtain ⟨v', h1, h2⟩ := ss.sl k d' h
      exact ⟨v', by rw [List.getElem?_set_ne hk]; exact h1, h2⟩⟩
theorem KeepO.set (s : List (Option V)) (j : Nat) (x : Option V) : KeepO [j] s (s.set j x) := ⟨by simp, fun k hk => by
  rw [List.getElem?_set_ne]
  intro e
  subst e
  simp at hk⟩
@[simp] def agName (j : Nat) : AG := fun d σ M Q _ => Q (σ.set j (some d)) M
theorem qg_name (j : Nat) {x : Str} (hN : X.N.Nodup) (hi : X.N[j]? = some x := by rfl) (hx : Loc X.env.scope x := by first | exact Or.inl rfl | exact Or.inr rfl) (hf : X.fn x = true ∨ X.env.scope.names.lookup x = some .local := by first | exact .inl rfl | exact .inr rfl | assumption) : QG X B W [j] (.Name x pos) (agName j) :=
  pg_imp (pg_name hN hi hx hf) fun v s H R ⟨G, σ, M, d, Q, E, ss, r, h, k, kx⟩ => k _ H _ M G (Same.refl G) (ss.set j r) (.set s j _) h
abbrev AGs := List D → AS → Mem → (AS → Mem → Prop) → AXs → Prop
def LGs (K : PySem.W.Frag) (B : Hp) (W : WX) (vs : List Nat) (t : AGs) : TGs := fun v s H R => ∃ G σ M d Q E, SS K B G σ M s H ∧ RpA K G d v ∧ t d σ M Q E ∧ (∀ s' H' σ' M' G', Same G G' → SS K B G' σ' M' s' H' → KeepO vs s s' → Q σ' M' → R s' H') ∧ ∀ c d s' H', Wx K B E c d s' H' → W c d s' H'
abbrev QGs (X : Cx) (B : Hp) (W : WX) (vs : List Nat) (e : List Expr) (t : AGs) : Prop := PGs X e (LGs X.K B W vs t)
@[simp] def agNil : AGs := fun ds σ M Q _ => match ds with
  | [] => Q σ M
  | _ => False
@[simp] def agCons (t : AG) (u : AGs) : AGs := fun ds σ M Q E => match ds with
  | d :: r => t d σ M (fun σ' M' => u r σ' M' Q E) E
  | _ => False
theorem qgs_nil : QGs X B W [] [] agNil := pgs_imp pgs_nil fun v s H R ⟨G, σ, M, d, Q, E, ss, r, h, k, kx⟩ => by
  match d, h with
  | [], h => cases r; exact ⟨rfl, k _ H _ M G (Same.refl G) ss (.refl _ _) h⟩
theorem qgs_cons {vs ws : List Nat} {t : AG} {u : AGs} (h1 : QG X B W vs e t) (h2 : QGs X B W ws es u) (hs : (assignEach (e :: es) X.env).map (·.2) = assign e X.env :: (assignEach es X.env).map (·.2) := by rfl) : QGs X B W (vs ++ ws) (e :: es) (agCons t u) :=
  pgs_imp (pgs_cons h1 h2 hs) fun v s H R ⟨G, σ, M, d, Q, E, ss, r, h, k, kx⟩ => by
    match d, h with
    | d :: ds, h =>
      cases r with
      | cons r1 r2 =>
        exact ⟨_, _, rfl, G, σ, M, d, _, E, ss, r1, h, fun s1 H1 σ1 M1 G1 e1 ss1 k1 q1 => ⟨G1, σ1, M1, ds, Q, E, ss1, r2.up e1, q1, fun s2 H2 σ2 M2 G2 e2 ss2 k2 q2 => k s2 H2 σ2 M2 G2 (e1.trans e2) ss2 (k1.trans k2) q2, kx⟩, kx⟩
theorem pg_or {e : Expr} {t t' : TG} (h : PG X e t) (h' : PG X e t') : PG X e (fun v s H Q => t v s H Q ∨ t' v s H Q) := ⟨fun pins s σ H v u Q I r q => q.elim (h.run pins s σ H v u Q I r) (h'.run pins s σ H v u Q I r)⟩
/-- (a, b, ..) of a tuple or a list -/
@[simp] def agTup (n : Nat) (t : AGs) : AG := fun d σ M Q E => match d with
  | .tup ds => ds.length = n ∧ t ds σ M Q E
  | d => ∃ ds, LsAt M d ds ∧ ds.length = n ∧ t ds σ M Q E
theorem qg_tup {vs : List Nat} {j : Nat} {t : AGs} {n : Nat} (hc : X.calm = true) (h : QGs X B W vs es t) (hn : (assignEach es X.env).length = n := by rfl) (hst : (assignEach es X.env).findIdx? (·.1) = none := by rfl) : QG X B W vs (.Tuple es j pos) (agTup n t) :=
  pg_imp (pg_or (pg_tup hc h hn hst) (pg_lst hc h hn hst)) fun v s H R ⟨G, σ, M, d, Q, E, ss, r, h, k, kx⟩ => by
    unfold agTup at h
    split at h
    · obtain ⟨a, ws, rfl, p, t⟩ := rp_tup r
      exact .inl ⟨a, ws, rfl, same_sqt ss.mem.same p, by rw [← t.len]; exact h.1, G, σ, M, _, Q, E, ss, t, h.2, k, kx⟩
    · obtain ⟨ds, h1, h2, h3⟩ := h
      refine lsAt ss.mem r h1 fun a ws e p t => ?_
      exact .inr ⟨a, ws, e, p, by rw [← t.len]; exact h2, G, σ, M, _, Q, E, ss, t, h3, k, kx⟩
/-- o[i] = .. of a list -/
@[simp] def sSet (o i d : D) (M : Mem) (Q : Mem → Prop) : Prop := match o, i with
  | .ref p, .int k => ∃ xs j, M p = some (.lst xs) ∧ ixN xs.length k = some j ∧ Q (mset M p (.lst (xs.set j d)))
  | _, _ => False
@[simp] def agSub (to ti : AE) : AG := fun d σ M Q E => to σ M (fun o M1 => ti σ M1 (fun i M2 => sSet o i d M2 fun M3 => Q σ M3) E) E
theorem qg_sub (ho : QE X B W o ta) (hi : QE X B W i tb)
    (ha : ∀ v, assign (.Subscript o i pos) X.env v = (do
      let ov ← holding [v] (eval o X.env)
      let iv ← holding [v, ov] (eval i X.env)
      standAt pos
      holding [v, ov, iv] (setItem ov iv v)
      release [v, ov, iv] []) := by intro _; rfl) : QG X B W [] (.Subscript o i pos) (agSub ta tb) :=
  pg_imp (pg_sub ho hi set_list ha) fun v s H R ⟨G, σ, M, d, Q, E, ss, r, h, k, kx⟩ => by
    refine ⟨G, σ, M, _, E, ss, h, fun ov H1 ⟨x, M1, G1, e1, m1, r1, q1⟩ => ⟨G1, σ, M1, _, E, ss.with e1 m1, q1, fun iv H2 ⟨y, M2, G2, e2, m2, r2, q2⟩ => ?_, kx⟩, kx⟩
    match x, y, q2 with
    | .ref p, .int j, q2 =>
      obtain ⟨xs, n, h1, h2, h3⟩ := q2
      obtain ⟨ws, t, eH⟩ := cellL m2 h1
      have r1' := r1.up e2
      cases r1'
      cases r2
      have e12 := e1.trans e2
      refine ⟨p, ws, j, n, rfl, rfl, eH, by rw [← t.len]; exact h2, ?_⟩
      have mw := m2.write (a := p) (o := .lst (ws.set n v)) (c := .lst (xs.set n d)) h1 ⟨_, RpA.set (r.up e12) n t, upd_same⟩
      exact k s _ σ _ G2 e12 ((ss.with e12 mw)) (.refl _ _) h3
/-- target = e -/
@[simp] def aAsg (te : AE) (g : AG) : ASt := fun D σ M => te σ M (fun x M1 => g x σ M1 D.nx D.xx) D.xx
theorem qs_asg {vs : List Nat} {tg : Expr} {g : AG} (he : QE X B W e te) (hg : QG X B W vs tg g) (hs : swapsWithSole [tg] e pos.line X.env = pure false := by rfl) (hw : swappedStores [tg] e X.env = pure none := by rfl)
    (h1 : (assignEach [tg] X.env).map (·.2) = [assign tg X.env] := by rfl) : QS X B W (.Assign [tg] e pos) (aAsg te g) := ps_imp (ps_asg he hg hs hw h1) fun Dc s H ⟨G, σ, M, D, ss, h, kn, kr, kb, kc, kx⟩ =>
  ⟨G, σ, M, _, D.xx, ss, h, fun v H1 ⟨x, M1, G1, e1, m1, r1, q1⟩ => ⟨G1, σ, M1, x, _, D.xx, ss.with e1 m1, r1, q1, fun s' H' σ' M' G' e2 ss' _ q => kn s' H' σ' M' G' (e1.trans e2) ss' q, kx⟩, kx⟩
theorem qs_set (j : Nat) {x : Str} (hN : X.N.Nodup) (he : QE X B W e te) (hi : X.N[j]? = some x := by rfl) (hx : Loc X.env.scope x := by first | exact Or.inl rfl | exact Or.inr rfl) (hs : swapsWith e (some (.Name x pos')) pos.line X.env = pure false := by rfl) (hf : X.fn x = true ∨ X.env.scope.names.lookup x = some .local := by first | exact .inl rfl | exact .inr rfl | assumption) :
    QS X B W (.Assign [.Name x pos'] e pos) (aAsg te (agName j)) := ps_imp (ps_set hN hi hx he hs hf) fun Dc s H ⟨G, σ, M, D, ss, h, kn, kr, kb, kc, kx⟩ =>
  ⟨G, σ, M, _, D.xx, ss, h, fun v H1 ⟨x, M1, G1, e1, m1, r1, q1⟩ => kn _ H1 _ M1 G1 e1 ((ss.with e1 m1).set j r1) q1, kx⟩
/-- a, b = x, y -/
@[simp] def aPar (j l : Nat) (ta : AA) : ASt := fun D σ M => ta σ M (fun ds M1 => match ds with
  | [v, w] => D.nx ((σ.set j (some v)).set l (some w)) M1
  | _ => False) D.xx
theorem qs_par (j l : Nat) {x y : Str} {px py pt : Pos} {kt k2 pt2} (hc : X.calm = true) (hN : X.N.Nodup) (ha : QA X B W [a, b] tas) (hi : X.N[j]? = some x := by rfl) (hj : X.N[l]? = some y := by rfl) (hij : j ≠ l := by decide)
    (hx : X.env.scope.names.lookup x = some .local := by rfl) (hy : X.env.scope.names.lookup y = some .local := by rfl)
    (hw : swappedStores [.Tuple [.Name x px, .Name y py] kt pt] (.Tuple [a, b] k2 pt2) X.env = pure (some [x, y]) := by rfl)
    (hs : swapsWithSole [.Tuple [.Name x px, .Name y py] kt pt] (.Tuple [a, b] k2 pt2) pos.line X.env = pure false := by rfl) :
    QS X B W (.Assign [.Tuple [.Name x px, .Name y py] kt pt] (.Tuple [a, b] k2 pt2) pos) (aPar j l tas) := ps_imp (ps_par hc hN hi hj hij hx hy ha hw hs) fun Dc s H ⟨G, σ, M, D, ss, h, kn, kr, kb, kc, kx⟩ =>
  ⟨G, σ, M, _, D.xx, ss, h, fun vs H1 ds M1 G1 e1 m1 r1 q1 => by
    match ds, q1 with
    | [v, w], q1 =>
      obtain ⟨v', w', rfl, ra, rb⟩ := rpa2 r1
      exact ⟨v', w', rfl, kn _ H1 _ M1 G1 e1 (((ss.with e1 m1).set j ra).set l rb) q1⟩, kx⟩
@[simp] def aPar3 (j l n : Nat) (ta : AA) : ASt := fun D σ M => ta σ M (fun ds M1 => match ds with
  | [u, v, w] => D.nx (((σ.set j (some u)).set l (some v)).set n (some w)) M1
  | _ => False) D.xx
end
end HA
namespace HA
open PySem PySem.Spec L2
section
variable {X : Cx} {B : Hp} {W : WX} {a b c e o i value : Expr} {es rest : List Expr} {ta tb tc te tv : AE} {tt tu : AT} {tas : AA} {pos pos' tpos : Pos} {st : Stmt} {sts ss1 ss2 : List Stmt} {t u : ASt}
theorem rpa3 {K : PySem.W.Frag} {G : Hp} {x y z : D} {vs : List V} (h : RpA K G [x, y, z] vs) : ∃ v w u, vs = [v, w, u] ∧ Rp K G x v ∧ Rp K G y w ∧ Rp K G z u := by
  cases h with | cons h t => obtain ⟨w, u, rfl, r, r2⟩ := rpa2 t; exact ⟨_, w, u, rfl, h, r, r2⟩
theorem qs_par3 (j l n : Nat) {x y z : Str} {px py pz pt : Pos} {kt k2 pt2} (hc : X.calm = true) (hN : X.N.Nodup) (ha : QA X B W [a, b, c] tas) (hi : X.N[j]? = some x := by rfl) (hj : X.N[l]? = some y := by rfl) (hn : X.N[n]? = some z := by rfl) (hij : j ≠ l := by decide) (hil : j ≠ n := by decide) (hjl : l ≠ n := by decide)
    (hx : X.env.scope.names.lookup x = some .local := by rfl) (hy : X.env.scope.names.lookup y = some .local := by rfl) (hz : X.env.scope.names.lookup z = some .local := by rfl)
    (hw : swappedStores [.Tuple [.Name x px, .Name y py, .Name z pz] kt pt] (.Tuple [a, b, c] k2 pt2) X.env = pure (some [x, y, z]) := by rfl)
    (hs : swapsWithSole [.Tuple [.Name x px, .Name y py, .Name z pz] kt pt] (.Tuple [a, b, c] k2 pt2) pos.line X.env = pure false := by rfl) :
    QS X B W (.Assign [.Tuple [.Name x px, .Name y py, .Name z pz] kt pt] (.Tuple [a, b, c] k2 pt2) pos) (aPar3 j l n tas) := ps_imp (ps_par3 hc hN hi hj hn hij hil hjl hx hy hz ha hw hs) fun Dc s H ⟨G, σ, M, D, ss, h, kn, kr, kb, kc, kx⟩ =>
  ⟨G, σ, M, _, D.xx, ss, h, fun vs H1 ds M1 G1 e1 m1 r1 q1 => by
    match ds, q1 with
    | [u, v, w], q1 =>
      obtain ⟨u', v', w', rfl, ra, rb, rc⟩ := rpa3 r1
      exact ⟨u', v', w', rfl, kn _ H1 _ M1 G1 e1 ((((ss.with e1 m1).set j ra).set l rb).set n rc) q1⟩, kx⟩

/-! ### op= -/
def IpOk (X : Cx) (op : Operator) (r : A2) : Prop := ∃ rc, PIp X op rc ∧ OkR X.K r rc
@[simp] def aAug (j : Nat) (r : A2) (te : AE) : ASt := fun D σ M => onSlot σ[j]? fun x => te σ M (fun y M1 => r x y M1 fun z M2 => D.nx (σ.set j (some z)) M2) D.xx
theorem qs_aug (j : Nat) {x : Str} {op : Operator} {r : A2} (hN : X.N.Nodup) (o : IpOk X op r) (he : QE X B W e te) (hi : X.N[j]? = some x := by rfl) (hx : Loc X.env.scope x := by first | exact Or.inl rfl | exact Or.inr rfl) (hf : X.fn x = true ∨ X.env.scope.names.lookup x = some .local := by first | exact .inl rfl | exact .inr rfl | assumption) :
    QS X B W (.AugAssign (.Name x pos') op e pos) (aAug j r te) := by
  obtain ⟨rc, ho, ok⟩ := o
  refine ps_imp (ps_aug hN hi hx he ho hf) fun Dc s H ⟨G, σ, M, D, ss, h, kn, kr, kb, kc, kx⟩ => ?_
  obtain ⟨d, e1, q⟩ := onSlot_ok h
  obtain ⟨v, e2, r1⟩ := ss.sl j d e1
  refine ⟨v, e2, G, σ, M, _, D.xx, ss, q, fun w H1 ⟨y, M1, G1, e3, m1, r2, q1⟩ => ?_, kx⟩
  exact ok G1 M1 H1 d y v w _ _ m1 (r1.up e3) r2 q1 fun z H2 ⟨zd, M2, G2, e4, m2, r3, q2⟩ => kn _ H2 _ M2 G2 (e3.trans e4) ((ss.with (e3.trans e4) m2).set j r3) q2
theorem pip_of {op : Operator} {rc : R2} (h : OpR X (inplaceOp op) rc) : PIp X op rc := fun pins s σ H x y v u Q I r1 r2 q => h pins s σ H x y v u Q I r1 r2 q
@[simp] def bIAdd : A2 := fun x y M Q => match x, y with
  | .int i, .int j => Q (.int (i + j)) M
  | .str i, .str j => i.length + j.length ≤ sizeLine ∧ Q (.str (i ++ j)) M
  | .ref p, y => ∃ xs ys, M p = some (.lst xs) ∧ LstAt M y ys ∧ xs.length + ys.length ≤ sizeLine ∧ Q (.ref p) (mset M p (.lst (xs ++ ys)))
  | _, _ => False
theorem i_add : IpOk X .Add bIAdd := ⟨_, pip_of ((iop_add.or iop_add_str).or iop_ext), fun G M H x y xv yv Q R m rx ry h k => by
  unfold bIAdd at h
  split at h
  · cases rx; cases ry; exact .inl (.inl ⟨_, _, rfl, rfl, k _ _ (.here m (.int _) h)⟩)
  · cases rx; cases ry; exact .inl (.inr ⟨_, _, rfl, rfl, h.1, k _ _ (.here m (.str _) h.2)⟩)
  · obtain ⟨xs, ys, h1, h2, h3, h4⟩ := h
    cases rx
    obtain ⟨ws, t, e⟩ := cellL m h1
    refine lstAt m ry h2 fun b us eb pb tb => ?_
    subst eb
    exact .inr ⟨_, b, ws, us, rfl, rfl, e, pb, by rw [← t.len, ← tb.len]; exact h3, Kv.wr m k h1 (t.app tb) (.ref _) h4⟩
  · exact h.elim⟩
theorem i_sub : IpOk X .Sub (bI0 fun i j => i - j) := ⟨_, pip_of iop_sub, bI0_ok⟩
theorem i_mul : IpOk X .Mult (bI MulOk fun i j => i * j) := ⟨_, pip_of iop_mulO, bI_ok⟩
theorem i_shr : IpOk X .RShift (bI ShrOk fun i j => i / 2 ^ j.toNat) := ⟨_, pip_of iop_shr, bI_ok⟩
theorem i_and : IpOk X .BitAnd (bI0 Builtin.bitAnd) := ⟨_, pip_of iop_and, bI0_ok⟩
theorem i_or : IpOk X .BitOr (bI0 Builtin.bitOr) := ⟨_, pip_of iop_or, bI0_ok⟩
theorem i_xor : IpOk X .BitXor (bI0 Builtin.bitXor) := ⟨_, pip_of iop_xor, bI0_ok⟩

/-! ### fields stored -/
@[simp] def fSet (K : PySem.W.Frag) (f : Str) (x d : D) (M : Mem) (Q : Mem → Prop) : Prop := match x with
  | .ref a => ∃ C fs, M a = some (.ins C fs) ∧ Cls K C ∧ NoAttr K C f ∧ fs.length < 1000 ∧ Q (mset M a (.ins C (putD f d fs)))
  | _ => False
@[simp] def aFldS (K : PySem.W.Frag) (to tv : AE) (f : Str) : ASt := fun D σ M => tv σ M (fun d M1 => to σ M1 (fun x M2 => fSet K f x d M2 fun M3 => D.nx σ M3) D.xx) D.xx
theorem fSet_ok {K : PySem.W.Frag} {G H : Hp} {M : Mem} {f : Str} {x d : D} {xv v : V} {Q : Mem → Prop} {P : Hp → Prop} (m : SM K G M H) (rx : Rp K G x xv) (r : Rp K G d v) (h : fSet K f x d M Q) (k : ∀ M' H', SM K G M' H' → Q M' → P H') :
    ∃ a C dx fs, xv = .ref a ∧ H a = some (.ins C dx fs) ∧ Cls K C ∧ NoAttr K C f ∧ fs.length < 1000 ∧ P (upd H a (.ins C dx (putF f v fs))) := by
  match x, h with
  | .ref a, h =>
    obtain ⟨C, fs, h1, cl, na, hz, q⟩ := h
    obtain ⟨_, dx, vs, fr, eH⟩ := m.cell a _ h1
    cases rx
    exact ⟨a, C, dx, vs, rfl, eH, cl, na, by rw [← fr.len]; exact hz, k _ _ (m.write (c := .ins C (putD f d fs)) h1 ⟨dx, _, FR.put r fr, upd_same⟩) q⟩
theorem qs_fld {f : Str} (ha : QE X B W o ta) (hv : QE X B W value tv) (hs : swapsWith value (some (.Attribute o f pos')) pos.line X.env = pure false := by rfl) : QS X B W (.Assign [.Attribute o f pos'] value pos) (aFldS X.K ta tv f) :=
  ps_imp (ps_fld ha hv hs) fun Dc s H ⟨G, σ, M, D, ss, h, kn, kr, kb, kc, kx⟩ =>
    ⟨G, σ, M, _, D.xx, ss, h, fun v H1 ⟨d, M1, G1, e1, m1, r1, q1⟩ => ⟨G1, σ, M1, _, D.xx, ss.with e1 m1, q1, fun xv H2 ⟨x, M2, G2, e2, m2, r2, q2⟩ =>
      fSet_ok (P := fun H3 => Dc.nx s H3) m2 r2 (r1.up e2) q2 fun M3 H3 m3 q3 => kn s H3 σ M3 G2 (e1.trans e2) (ss.with (e1.trans e2) m3) q3, kx⟩, kx⟩
/-- o.f op= e -/
def aFldAug (K : PySem.W.Frag) (to tv : AE) (r : A2) (f : Str) : ASt := fun D σ M => to σ M (fun x M1 => match x with
  | .ref a => ∃ C fs old, M1 a = some (.ins C fs) ∧ Cls K C ∧ NoAttr K C f ∧ fs.lookup f = some old ∧
      tv σ M1 (fun y M3 => r old y M3 fun z M4 => ∃ fs', M4 a = some (.ins C fs') ∧ fs'.length < 1000 ∧ D.nx σ (mset M4 a (.ins C (putD f z fs')))) D.xx
  | _ => False) D.xx
def IfOk (X : Cx) (op : Operator) (r : A2) : Prop := ∃ rc, InOp X op rc ∧ OkR X.K r rc
theorem if_of {op : Operator} {r : A2} (h : IpOk X op r) : IfOk X op r := h
theorem qs_fldaug {f : Str} {op : Operator} {r : A2} (ha : QE X B W o ta) (hv : QE X B W value tv) (ho : IfOk X op r) : QS X B W (.AugAssign (.Attribute o f tpos) op value pos) (aFldAug X.K ta tv r f) := by
  obtain ⟨rc, ho, ok⟩ := ho
  refine ps_imp (ps_fldaug ha hv ho) fun Dc s H ⟨G, σ, M, D, ss, h, kn, kr, kb, kc, kx⟩ => ?_
  refine ⟨G, σ, M, _, D.xx, ss, h, fun v H1 ⟨x, M1, G1, e1, m1, r1, q1⟩ => ?_, kx⟩
  match x, q1 with
  | .ref a, q1 =>
    obtain ⟨C, fs, d, h1, cl, na, h2, h3⟩ := q1
    obtain ⟨_, dx, vs, fr, eH⟩ := m1.cell a _ h1
    obtain ⟨w, hw, rw'⟩ := fr.look h2
    cases r1
    refine ⟨a, C, dx, vs, w, rfl, eH, cl, na, hw, G1, σ, M1, _, D.xx, ss.with e1 m1, h3, fun yv H2 ⟨y, M2, G2, e2, m2, r2, q2⟩ => ?_, kx⟩
    refine ok G2 M2 H2 d y w yv _ _ m2 (rw'.up e2) r2 q2 fun zv H3 ⟨z, M3, G3, e3, m3, r3, q3⟩ => ?_
    obtain ⟨fs', h5, hz, q4⟩ := q3
    obtain ⟨_, dx', vs', fr', eH'⟩ := m3.cell a _ h5
    exact ⟨dx', vs', eH', by rw [← fr'.len]; exact hz, kn s _ σ _ G3 (e1.trans (e2.trans e3)) (ss.with (e1.trans (e2.trans e3)) (m3.write (c := .ins C (putD f z fs')) h5 ⟨dx', _, FR.put r3 fr', upd_same⟩)) q4⟩
end
end HA
/-! A5: what is walked; for, while, comprehensions over trees. -/
namespace HA
open PySem PySem.Spec L2

/-- the iterator J yields the things xs, as long as st holds of the memory -/
structure ItOk (K : PySem.W.Frag) (G : Hp) (xs : List D) (st : Mem → Prop) (J : It) : Prop where
  go : ∀ (i : Nat) G' M H, i < xs.length → Same G G' → SM K G' M H → st M → J.go i H
  stop : ∀ (i : Nat) G' M H, xs.length ≤ i → Same G G' → SM K G' M H → st M → J.stop i H
  yld : ∀ (i : Nat) G' M H x H', i < xs.length → Same G G' → SM K G' M H → st M → J.yld i H x H' → ∃ d G2, xs[i]? = some d ∧ Same G' G2 ∧ SM K G2 M H' ∧ Rp K G2 d x
abbrev AI := AS → Mem → (List D → (Mem → Prop) → Mem → Prop) → AXs → Prop
def LI (K : PySem.W.Frag) (B : Hp) (W : WX) (t : AI) : TI := fun s H R => ∃ G σ M Q E, SS K B G σ M s H ∧ t σ M Q E ∧ (∀ J H' xs st M' G', Same G G' → SM K G' M' H' → ItOk K G' xs st J → Q xs st M' → R J H') ∧ ∀ c d s' H', Wx K B E c d s' H' → W c d s' H'
abbrev QI (X : Cx) (B : Hp) (W : WX) (tg e : Expr) (t : AI) : Prop := PI X tg e (LI X.K B W t)

section
variable {X : Cx} {B : Hp} {W : WX} {a b c e o i tg value : Expr} {es rest : List Expr} {ta tb tc te tv : AE} {tt tu : AT} {tas : AA} {ti : AI} {pos pos' tpos p : Pos} {st : Stmt} {sts ss1 ss2 body : List Stmt} {t u : ASt}
theorem pi_imp {t t' : TI} (h : PI X tg e t) (k : ∀ σ H R, t' σ H R → t σ H R) : PI X tg e t' := ⟨fun pins s σ H R I q => h.run pins s σ H R I (k σ H R q)⟩
theorem get_lt {α : Type} {xs : List α} {i : Nat} (h : i < xs.length) : ∃ x, xs[i]? = some x := ⟨xs[i], by simp [h]⟩
theorem itok_list {K : PySem.W.Frag} {G : Hp} {a : Addr} {xs : List D} {st : Mem → Prop} (h : ∀ G' M H, Same G G' → SM K G' M H → st M → ∃ vs, SqL K H a vs ∧ RpA K G' xs vs) : ItOk K G xs st (Itl K a) where
  go := fun i G' M H hi e m s => by
    obtain ⟨vs, h1, h2⟩ := h G' M H e m s
    obtain ⟨v, hv⟩ := get_lt (xs := vs) (i := i) (by rw [← h2.len]; exact hi)
    exact ⟨vs, v, h1, hv⟩
  stop := fun i G' M H hi e m s => by
    obtain ⟨vs, h1, h2⟩ := h G' M H e m s
    exact ⟨vs, h1, by rw [← h2.len]; exact hi⟩
  yld := fun i G' M H x H' hi e m s y => by
    obtain ⟨vs, h1, h2⟩ := h G' M H e m s
    obtain ⟨rfl, y⟩ := y
    obtain ⟨d, hd, r⟩ := h2.getV (y vs h1)
    exact ⟨d, G', hd, Same.refl _, m, r⟩
theorem itok_tup {K : PySem.W.Frag} {G : Hp} {a : Addr} {xs : List D} {st : Mem → Prop} (h : ∀ G' M H, Same G G' → SM K G' M H → st M → ∃ vs, SqT K H a vs ∧ RpA K G' xs vs) : ItOk K G xs st (Itt K a) where
  go := fun i G' M H hi e m s => by
    obtain ⟨vs, h1, h2⟩ := h G' M H e m s
    obtain ⟨v, hv⟩ := get_lt (xs := vs) (i := i) (by rw [← h2.len]; exact hi)
    exact ⟨vs, v, h1, hv⟩
  stop := fun i G' M H hi e m s => by
    obtain ⟨vs, h1, h2⟩ := h G' M H e m s
    exact ⟨vs, h1, by rw [← h2.len]; exact hi⟩
  yld := fun i G' M H x H' hi e m s y => by
    obtain ⟨vs, h1, h2⟩ := h G' M H e m s
    obtain ⟨rfl, y⟩ := y
    obtain ⟨d, hd, r⟩ := h2.getV (y vs h1)
    exact ⟨d, G', hd, Same.refl _, m, r⟩
/-- a list, a tuple; what is walked must stand still -/
@[simp] def still (x : D) (xs : List D) : Mem → Prop := match x with
  | .ref a => fun M => M a = some (.lst xs)
  | _ => fun _ => True
def aWalkL (te : AE) : AI := fun σ M Q E => te σ M (fun x M1 => ∃ xs, LsAt M1 x xs ∧ Q xs (still x xs) M1) E
theorem qi_list (he : QE X B W e te) : QI X B W tg e (aWalkL te) := pi_imp (pi_list he) fun s H R ⟨G, σ, M, Q, E, ss, h, k, kx⟩ => by
  refine ⟨G, σ, M, _, E, ss, h, fun v H1 ⟨x, M1, G1, e1, m1, r1, xs, h1, q⟩ => ?_, kx⟩
  have ok : ∀ a, v = .ref a → ItOk X.K G1 xs (still x xs) (Itl X.K a) := fun a ea => itok_list fun G' M' H' e' m' s' => by
    have r' := r1.up e'
    match x, h1, s', r' with
    | .lst ys, h1, s', r' => cases h1; cases r' with | lst g t => cases ea; exact ⟨_, .of (m'.same _ _ g), t⟩
    | .frz ys, h1, s', r' => cases h1; cases r' with | frz g t => cases ea; exact ⟨_, m'.same.seq g, t⟩
    | .ref b, h1, s', r' => cases r'; cases ea; obtain ⟨vs, t, eH⟩ := cellL m' s'; exact ⟨vs, .of eH, t⟩
  refine lsAt m1 r1 h1 fun a vs ea p t => ?_
  exact ⟨a, ea, ⟨vs, p⟩, k _ H1 xs _ M1 G1 e1 m1 (ok a ea) q⟩
def aWalkT (te : AE) : AI := fun σ M Q E => te σ M (fun x M1 => match x with
  | .tup xs => Q xs (fun _ => True) M1
  | _ => False) E
theorem qi_tup (he : QE X B W e te) : QI X B W tg e (aWalkT te) := pi_imp (pi_tup he) fun s H R ⟨G, σ, M, Q, E, ss, h, k, kx⟩ => by
  refine ⟨G, σ, M, _, E, ss, h, fun v H1 ⟨x, M1, G1, e1, m1, r1, q⟩ => ?_, kx⟩
  match x, q with
  | .tup xs, q =>
    obtain ⟨a, vs, rfl, p, t⟩ := rp_tup r1
    refine ⟨a, rfl, ⟨vs, same_sqt m1.same p⟩, k _ H1 xs _ M1 G1 e1 m1 (itok_tup fun G' M' H' e' m' s' => ?_) q⟩
    exact ⟨vs, same_sqt m'.same (same_sqt e' p), t.up e'⟩
/-- lists and tuples -/
theorem pi_or {t t' : TI} (h : PI X tg e t) (h' : PI X tg e t') : PI X tg e (fun s H R => t s H R ∨ t' s H R) := ⟨fun pins s σ H R I q => q.elim (h.run pins s σ H R I) (h'.run pins s σ H R I)⟩
/-- lo, lo + 1, .. -/
def rangeD (lo : Int) (n : Nat) : List D := (List.range n).map fun (j : Nat) => D.int (lo + j)
theorem rangeD_len (lo : Int) (n : Nat) : (rangeD lo n).length = n := by simp [rangeD]
theorem rangeD_get {lo : Int} {n i : Nat} (h : i < n) : (rangeD lo n)[i]? = some (.int (lo + i)) := by simp [rangeD, h]
theorem rangeD_some {lo : Int} {n i : Nat} {d : D} (h : (rangeD lo n)[i]? = some d) : i < n ∧ d = .int (lo + i) := by
  have hi : i < n := by
    have := (List.getElem?_eq_some_iff.mp h).1
    rwa [rangeD_len] at this
  rw [rangeD_get hi] at h
  exact ⟨hi, (Option.some.inj h).symm⟩
theorem itok_range {K : PySem.W.Frag} {G : Hp} (lo : Int) (n : Nat) : ItOk K G (rangeD lo n) (fun _ => True) (Itr lo n) where
  go := fun i G' M H hi e m s => by rw [rangeD_len] at hi; exact hi
  stop := fun i G' M H hi e m s => by rw [rangeD_len] at hi; exact hi
  yld := fun i G' M H x H' hi e m s y => by
    rw [rangeD_len] at hi
    obtain ⟨rfl, rfl⟩ := y
    exact ⟨_, G', rangeD_get hi, Same.refl _, m, .int _⟩
def RngOk (j : Int) : Prop := -4611686018427387904 ≤ j ∧ j < 4611686018427387904
@[simp] def aRng1 (ta : AA) : AI := fun σ M Q E => ta σ M (fun xs M1 => match xs with
  | [.int j] => RngOk j ∧ Q (rangeD 0 j.toNat) (fun _ => True) M1
  | _ => False) E
theorem rngok {j : Int} (h : RngOk j) : -(2 ^ 62) ≤ j ∧ j < 2 ^ 62 := by
  have e : (2 : Int) ^ 62 = 4611686018427387904 := by decide
  rw [e]; exact h
theorem qi_range1 (hg : Gl X "range") (hm : X.mg "range" = none) (ha : QA X B W [a] tas) (hs : starEach [a] X.env = [(false, eval a X.env)] := by rfl) : QI X B W tg (.Call (.Name "range" p) [a] [] pos) (aRng1 tas) :=
  pi_imp (pi_range1 hg hm ha hs) fun s H R ⟨G, σ, M, Q, E, ss, h, k, kx⟩ => ⟨G, σ, M, _, E, ss, h, fun vs H1 xs M1 G1 e1 m1 r1 q => by
    match xs, q with
    | [.int j], q =>
      obtain ⟨v, rfl, r⟩ := rpa1 r1
      cases r
      have z := rngok q.1
      exact ⟨j, rfl, z.1, z.2, k _ H1 _ _ M1 G1 e1 m1 (itok_range 0 j.toNat) q.2⟩, kx⟩
@[simp] def aRng2 (ta : AA) : AI := fun σ M Q E => ta σ M (fun xs M1 => match xs with
  | [.int l, .int j] => (RngOk l ∧ RngOk j) ∧ Q (rangeD l (j - l).toNat) (fun _ => True) M1
  | _ => False) E
theorem qi_range2 (hg : Gl X "range") (hm : X.mg "range" = none) (ha : QA X B W [a, b] tas) (hs : starEach [a, b] X.env = [(false, eval a X.env), (false, eval b X.env)] := by rfl) (hs2 : starEach [b] X.env = [(false, eval b X.env)] := by rfl) : QI X B W tg (.Call (.Name "range" p) [a, b] [] pos) (aRng2 tas) :=
  pi_imp (pi_range2 hg hm ha hs hs2) fun s H R ⟨G, σ, M, Q, E, ss, h, k, kx⟩ => ⟨G, σ, M, _, E, ss, h, fun vs H1 xs M1 G1 e1 m1 r1 q => by
    match xs, q with
    | [.int l, .int j], q =>
      obtain ⟨v, w, rfl, ra, rb⟩ := rpa2 r1
      cases ra; cases rb
      have z := rngok q.1.1
      have z2 := rngok q.1.2
      exact ⟨l, j, rfl, ⟨z.1, z.2, z2.1, z2.2⟩, k _ H1 _ _ M1 G1 e1 m1 (itok_range l _) q.2⟩, kx⟩
/-- lo, lo + c, .. (n of them) -/
def stepD (lo c : Int) (n : Nat) : List D := (List.range n).map fun (j : Nat) => D.int (lo + j * c)
theorem stepD_len (lo c : Int) (n : Nat) : (stepD lo c n).length = n := by simp [stepD]
theorem stepD_get {lo c : Int} {n i : Nat} (h : i < n) : (stepD lo c n)[i]? = some (.int (lo + i * c)) := by simp [stepD, h]
theorem stepD_some {lo c : Int} {n i : Nat} {d : D} (h : (stepD lo c n)[i]? = some d) : i < n ∧ d = .int (lo + i * c) := by
  have hi : i < n := by
    have := (List.getElem?_eq_some_iff.mp h).1
    rwa [stepD_len] at this
  rw [stepD_get hi] at h
  exact ⟨hi, (Option.some.inj h).symm⟩
theorem itok_step {K : PySem.W.Frag} {G : Hp} (lo c : Int) (n : Nat) : ItOk K G (stepD lo c n) (fun _ => True) (Itc lo c n) where
  go := fun i G' M H hi e m s => by rw [stepD_len] at hi; exact hi
  stop := fun i G' M H hi e m s => by rw [stepD_len] at hi; exact hi
  yld := fun i G' M H x H' hi e m s y => by
    rw [stepD_len] at hi
    obtain ⟨rfl, rfl⟩ := y
    exact ⟨_, G', stepD_get hi, Same.refl _, m, .int _⟩
@[simp] def aRng3 (ta : AA) : AI := fun σ M Q E => ta σ M (fun xs M1 => match xs with
  | [.int l, .int j, .int c] => ∃ n, RgC l j c n ∧ Q (stepD l c n) (fun _ => True) M1
  | _ => False) E
theorem qi_range3 (hg : Gl X "range") (hm : X.mg "range" = none) (ha : QA X B W [a, b, c] tas) (hs : starEach [a, b, c] X.env = (false, eval a X.env) :: starEach [b, c] X.env := by rfl) (hpl : (backTo pos (starEach [b, c] X.env)).any (·.1) = false := by rfl) : QI X B W tg (.Call (.Name "range" p) [a, b, c] [] pos) (aRng3 tas) :=
  pi_imp (pi_range3 hg hm ha hs hpl) fun s H R ⟨G, σ, M, Q, E, ss, h, k, kx⟩ => ⟨G, σ, M, _, E, ss, h, fun vs H1 xs M1 G1 e1 m1 r1 q => by
    match xs, q with
    | [.int l, .int j, .int c], ⟨n, q1, q2⟩ =>
      obtain ⟨v, w, u, rfl, ra, rb, rc⟩ := rpa3 r1
      cases ra; cases rb; cases rc
      exact ⟨l, j, c, n, rfl, q1, k _ H1 _ _ M1 G1 e1 m1 (itok_step l c n) q2⟩, kx⟩

/-! ### for -/
def aFor (ti : AI) (g : AG) (tb : ASt) : ASt := fun D σ M => ti σ M (fun xs st M1 => ∃ V : Nat → AS → Mem → Prop, V 0 σ M1 ∧
  (∀ i x σ M, xs[i]? = some x → V i σ M → st M ∧ g x σ M (fun σ2 M2 => tb { D with nx := V (i + 1), ct := V (i + 1), bk := D.nx } σ2 M2) D.xx) ∧
  ∀ σ M, V xs.length σ M → st M ∧ D.nx σ M) D.xx
theorem qs_for {g : AG} {vs : List Nat} (hp : PassesOwn (model X.prog X.w) X.A X.env X.xe) (hc : X.calm = true) (hi : QI X B W tg e ti) (hg : QG X B W vs tg g) (hb : QSs X B W body t) (hs : ∀ x, foldedSetIterable e X.env x = pure x := by intro _; rfl) :
    QS X B W (.For tg e body [] pos) (aFor ti g t) := ps_imp (ps_for hp hc hi hg hb hs) fun Dc s H ⟨G, σ, M, D, ss, h, kn, kr, kb, kc, kx⟩ => by
  refine ⟨G, σ, M, _, D.xx, ss, h, fun J H1 xs stl M1 G1 e1 m1 ok q => ?_, kx⟩
  obtain ⟨Vv, v0, turn, fin⟩ := q
  refine ⟨fun i m s H => m = xs.length - i ∧ i ≤ xs.length ∧ ∃ G' σ M, Same G1 G' ∧ SS X.K B G' σ M s H ∧ Vv i σ M, ⟨xs.length, rfl, Nat.zero_le _, G1, σ, M1, Same.refl _, ss.with e1 m1, v0⟩, ?_⟩
  rintro i m s2 H2 ⟨rfl, hi, G2, σ2, M2, e2, ss2, v2⟩
  by_cases hlt : i < xs.length
  · obtain ⟨x, hx⟩ := get_lt hlt
    obtain ⟨s2', q2⟩ := turn i x σ2 M2 hx v2
    refine .inr ⟨ok.go i G2 M2 H2 hlt e2 ss2.mem s2', fun s3 H3 => ∃ G' σ M, SS X.K B G' σ M s3 H3 ∧ Same G1 G' ∧ Vv (i + 1) σ M, fun s3 H3 ⟨G3, σ3, M3, ss3, e3, v3⟩ => ⟨xs.length - (i + 1), by omega, rfl, hlt, G3, σ3, M3, e3, ss3, v3⟩, fun y H3 hy => ?_⟩
    obtain ⟨d, G3, hd, e3, m3, r3⟩ := ok.yld i G2 M2 H2 y H3 hlt e2 ss2.mem s2' hy
    rw [hx] at hd
    cases hd
    have e23 := e2.trans e3
    refine ⟨G3, σ2, M2, x, _, D.xx, ss2.with e3 m3, r3, q2, fun s4 H4 σ4 M4 G4 e4 ss4 _ q4 => ?_, kx⟩
    have e24 := e23.trans e4
    exact ⟨G4, σ4, M4, _, ss4, q4, fun s5 H5 σ5 M5 G5 e5 ss5 v5 => ⟨G5, σ5, M5, ss5, e24.trans e5, v5⟩, fun v H' kv => kr v H' (kv.lift (e1.trans e24)), fun s5 H5 σ5 M5 G5 e5 ss5 v5 => kn s5 H5 σ5 M5 G5 (e1.trans (e24.trans e5)) ss5 v5,
      fun s5 H5 σ5 M5 G5 e5 ss5 v5 => ⟨G5, σ5, M5, ss5, e24.trans e5, v5⟩, kx⟩
  · have : i = xs.length := by omega
    subst this
    obtain ⟨s2', q2⟩ := fin σ2 M2 v2
    exact .inl ⟨ok.stop _ G2 M2 H2 (Nat.le_refl _) e2 ss2.mem s2', kn s2 H2 σ2 M2 G2 (e1.trans e2) ss2 q2⟩
/-! ### while -/
def aWhile (tt : AT) (tb : ASt) : ASt := fun D σ M => ∃ V : Nat → AS → Mem → Prop, (∃ m, V m σ M) ∧ ∀ m σ M, V m σ M →
  tt σ M (fun b M1 => (b = true → tb { D with nx := fun σ' M' => ∃ m', m' < m ∧ V m' σ' M', ct := fun σ' M' => ∃ m', m' < m ∧ V m' σ' M', bk := D.nx } σ M1) ∧ (b = false → D.nx σ M1)) D.xx
theorem qs_while (hp : PassesOwn (model X.prog X.w) X.A X.env X.xe) (hc : QT X B W c tt) (hb : QSs X B W body t) : QS X B W (.While c body [] pos) (aWhile tt t) := ps_imp (ps_while hp hc hb) fun Dc s H ⟨G, σ, M, D, ss, h, kn, kr, kb, kc, kx⟩ => by
  obtain ⟨Vv, ⟨m0, v0⟩, turn⟩ := h
  refine ⟨fun m s H => ∃ G' σ M, Same G G' ∧ SS X.K B G' σ M s H ∧ Vv m σ M, ⟨m0, G, σ, M, Same.refl G, ss, v0⟩, ?_⟩
  rintro m s2 H2 ⟨G2, σ2, M2, e2, ss2, v2⟩
  refine ⟨G2, σ2, M2, _, D.xx, ss2, turn m σ2 M2 v2, fun b H3 M3 G3 e3 m3 q => ?_, kx⟩
  have e23 := e2.trans e3
  cases b with
  | true =>
    refine iteT ⟨fun s5 H5 => ∃ G' σ M m', m' < m ∧ Same G G' ∧ SS X.K B G' σ M s5 H5 ∧ Vv m' σ M, fun s5 H5 ⟨G', σ, M, m', hm, e, ss, v⟩ => ⟨m', hm, G', σ, M, e, ss, v⟩, ?_⟩
    exact ⟨G3, σ2, M3, _, ss2.with e3 m3, q.1 rfl, fun s5 H5 σ5 M5 G5 e5 ss5 ⟨m', hm, v5⟩ => ⟨G5, σ5, M5, m', hm, e23.trans e5, ss5, v5⟩, fun v H' kv => kr v H' (kv.lift e23), fun s5 H5 σ5 M5 G5 e5 ss5 v5 => kn s5 H5 σ5 M5 G5 (e23.trans e5) ss5 v5,
      fun s5 H5 σ5 M5 G5 e5 ss5 ⟨m', hm, v5⟩ => ⟨G5, σ5, M5, m', hm, e23.trans e5, ss5, v5⟩, kx⟩
  | false => exact iteF (kn s2 H3 σ2 M3 G3 e23 (ss2.with e3 m3) (q.2 rfl))

/-! ### comprehensions -/
@[simp] def wipeA (σ : AS) : List Nat → AS
  | [] => σ
  | i :: r => (wipeA σ r).set i none
theorem wipe_get {s : L2.St} {j : Nat} : ∀ {vs : List Nat}, j ∉ vs → (wipe s vs)[j]? = s[j]? := wipe_out
theorem wipeA_len (σ : AS) : ∀ vs : List Nat, (wipeA σ vs).length = σ.length
  | [] => rfl
  | i :: r => by simp [wipeA, wipeA_len σ r]
theorem wipeA_some {σ : AS} {j : Nat} {d : D} : ∀ {vs : List Nat}, (wipeA σ vs)[j]? = some (some d) → σ[j]? = some (some d) ∧ j ∉ vs
  | [], h => ⟨h, by simp⟩
  | i :: r, h => by
    by_cases e : i = j
    · subst e
      unfold wipeA at h
      by_cases hl : i < (wipeA σ r).length
      · rw [List.getElem?_set_self hl] at h; cases h
      · rw [List.getElem?_eq_none (by simp; omega)] at h; cases h
    · unfold wipeA at h
      rw [List.getElem?_set_ne e] at h
      obtain ⟨h1, h2⟩ := wipeA_some (vs := r) h
      exact ⟨h1, by simp [h2, Ne.symm e]⟩
theorem SS.wipe {K : PySem.W.Frag} {G : Hp} {σ : AS} {M : Mem} {s : L2.St} {H : Hp} (ss : SS K B G σ M s H) (vs : List Nat) : SS K B G (wipeA σ vs) M (L2.wipe s vs) H :=
  ⟨ss.base, ss.mem, by rw [wipeA_len, wipe_length]; exact ss.len, fun j d h => by
    obtain ⟨h1, h2⟩ := wipeA_some h
    obtain ⟨v, h3, r⟩ := ss.sl j d h1
    exact ⟨v, by rw [wipe_get h2]; exact h3, r⟩⟩
theorem wipe_cong {s s' : L2.St} : ∀ {vs : List Nat}, s'.length = s.length → (∀ j, j ∉ vs → s'[j]? = s[j]?) → L2.wipe s' vs = L2.wipe s vs := fun {vs} hl h => by
  apply List.ext_getElem?
  intro j
  by_cases hj : j ∈ vs
  · have z : ∀ {s : L2.St}, ∀ {ws : List Nat}, j ∈ ws → (L2.wipe s ws)[j]? = if j < s.length then some none else none := by
      intro s ws
      induction ws with
      | nil => intro h; cases h
      | cons i r ih =>
        intro h
        show ((L2.wipe s r).set i none)[j]? = _
        by_cases e : i = j
        · subst e
          rw [List.getElem?_set]
          simp [wipe_length]
        · rw [List.getElem?_set_ne e]
          exact ih ((List.mem_cons.mp h).resolve_left (Ne.symm e))
    rw [z hj, z hj, hl]
  · rw [wipe_get hj, wipe_get hj, h j hj]
/-- no exception leaves from within -/
abbrev W0 : WX := fun _ _ _ _ => False
abbrev EF : AXs := fun _ _ _ _ => False
abbrev QTs (X : Cx) (B : Hp) (W : WX) (es : List Expr) (t : AT) : Prop := PTs X es (LT X.K B W t)
@[simp] def aYes : AT := fun _ M Q _ => Q true M
theorem pts_imp {es : List Expr} {t t' : TT} (h : PTs X es t) (k : ∀ σ H Q, t' σ H Q → t σ H Q) : PTs X es t' := ⟨fun pins s σ H Q I q => h.run pins s σ H Q I (k σ H Q q)⟩
theorem qts_nil : QTs X B W [] aYes := pts_imp pts_nil fun s H R ⟨G, σ, M, Q, E, ss, h, k, kx⟩ => k true H M G (Same.refl G) ss.mem h
theorem qts_one (h : QT X B W c tt) : QTs X B W [c] tt := pts_one h
def aLc (ti : AI) (g : AG) (tt : AT) (te : AE) (vs : List Nat) : AE := fun σ M Q E => ti σ M (fun xs st M1 => ∀ p, M1 p = none → ∃ V : Nat → Mem → Prop, V 0 (mset M1 p (.lst [])) ∧
  (∀ i x M, xs[i]? = some x → V i M → st M ∧ g x (wipeA σ vs) M (fun σ2 M2 => tt σ2 M2 (fun b M3 =>
    (b = true → te σ2 M3 (fun y M4 => ∃ acc, M4 p = some (.lst acc) ∧ acc.length < sizeLine ∧ V (i + 1) (mset M4 p (.lst (acc ++ [y])))) EF) ∧ (b = false → V (i + 1) M3)) EF) EF) ∧
  ∀ M, V xs.length M → st M ∧ Q (.ref p) M) E
/-- what a comprehension's block may do: the context of its inside -/
abbrev Blk (X : Cx) (scope : Scope) (P : Cx → Prop) : Prop := ∀ (s : Shared) (H : Hp) (C : Addr) (cl : List (Str × Addr)) (fp : List Addr), P (X.blk s H scope (compEnvC scope cl C X.env) fp)
theorem lift_lc {K : PySem.W.Frag} {g : AG} {vs ws : List Nat} (hv : ∀ j, j ∈ ws → j ∈ vs) {s : L2.St} {H : Hp} {R : VK} (h : LE K B W (aLc ti g tt te vs) s H R) : tLc (LI K B W ti) (LG K B W0 ws g) (LT K B W0 tt) (LE K B W0 te) vs s H R := by
  obtain ⟨G, σ, M, Q, E, ss, h, k, kx⟩ := h
  refine ⟨G, σ, M, _, E, ss, h, fun J H1 xs stl M1 G1 e1 m1 ok q p hp => ?_, kx⟩
  obtain ⟨Vv, v0, turn, fin⟩ := q p (m1.free hp).2
  have k0 : ∀ c d s' H', Wx K B EF c d s' H' → W0 c d s' H' := fun c d s' H' ⟨_, _, _, _, _, _, _, _, _, _, _, _, z⟩ => z
  refine ⟨fun i m H => m = xs.length - i ∧ i ≤ xs.length ∧ ∃ G' M, Same G1 G' ∧ SM K G' M H ∧ Vv i M, ⟨xs.length, rfl, Nat.zero_le _, G1, _, Same.refl _, m1.new (c := .lst []) hp ⟨[], .nil, upd_same⟩, v0⟩, ?_⟩
  rintro i m H2 ⟨rfl, hi, G2, M2, e2, m2, v2⟩
  by_cases hlt : i < xs.length
  · obtain ⟨x, hx⟩ := get_lt hlt
    obtain ⟨s2', q2⟩ := turn i x M2 hx v2
    refine .inr ⟨ok.go i G2 M2 H2 hlt e2 m2 s2', fun H3 => ∃ G' M, Same G1 G' ∧ SM K G' M H3 ∧ Vv (i + 1) M, fun H3 ⟨G3, M3, e3, m3, v3⟩ => ⟨xs.length - (i + 1), by omega, rfl, hlt, G3, M3, e3, m3, v3⟩, fun y H3 hy => ?_⟩
    obtain ⟨d, G3, hd, e3, m3, r3⟩ := ok.yld i G2 M2 H2 y H3 hlt e2 m2 s2' hy
    rw [hx] at hd
    cases hd
    have e13 := e2.trans e3
    refine ⟨G3, wipeA σ vs, M2, x, _, EF, (ss.with (e1.trans e13) m3).wipe vs, r3, q2, fun s4 H4 σ4 M4 G4 e4 ss4 kp q4 => ⟨?_, G4, σ4, M4, _, EF, ss4, q4, fun b H5 M5 G5 e5 m5 q5 => ?_, k0⟩, k0⟩
    · have w2 : L2.wipe (L2.wipe s vs) vs = L2.wipe s vs := wipe_cong (wipe_length _ _) fun j hj => wipe_get hj
      rw [← w2]
      refine wipe_cong kp.1 fun j hj => kp.2 j fun z => hj (hv j z)
    · have e45 := e4.trans e5
      cases b with
      | true =>
        refine iteT ⟨G5, σ4, M5, _, EF, ss4.with e5 m5, q5.1 rfl, fun yv H6 ⟨yd, M6, G6, e6, m6, r6, acc, h6, hz, v6⟩ => ?_, k0⟩
        obtain ⟨ws, t, eH⟩ := cellL m6 h6
        exact ⟨ws, eH, by rw [← t.len]; exact hz, G6, _, e13.trans (e45.trans e6), m6.write (c := .lst (acc ++ [yd])) h6 ⟨_, t.app (.cons r6 .nil), upd_same⟩, v6⟩
      | false => exact iteF ⟨G5, M5, e13.trans e45, m5, q5.2 rfl⟩
  · have : i = xs.length := by omega
    subst this
    obtain ⟨s2', q2⟩ := fin M2 v2
    exact .inl ⟨ok.stop _ G2 M2 H2 (Nat.le_refl _) e2 m2 s2', k _ _ ⟨.ref p, M2, G2, e1.trans e2, m2, .ref p, q2⟩⟩
theorem qe_lc {elt iter : Expr} {ifs : List Expr} {scope : Scope} {own : List (Str × Nat)} {ws : List Nat} {g : AG} (hc : X.calm = true) (hN : X.N.Nodup) (hi : QI X B W tg iter ti) (ok : BlkOk X.N X.env.scope scope own) (hv : ∀ j, j ∈ ws → j ∈ own.map (·.2))
    (hg : Blk X scope fun Y => QG Y B W0 ws tg g) (ht : Blk X scope fun Y => QTs Y B W0 ifs tt) (he : Blk X scope fun Y => QE Y B W0 elt te) (hs : ∀ x, foldedSetIterable iter X.env x = pure x := by intro _; rfl) :
    QE X B W (.ListComp elt [⟨tg, iter, ifs, 0⟩] scope pos) (aLc ti g tt te (own.map (·.2))) :=
  pe_imp (pe_lc hc hN hi ok hg ht he hs) fun s H R h => lift_lc hv h
theorem qs_setLc {elt iter : Expr} {ifs : List Expr} {scope : Scope} {own : List (Str × Nat)} {ws : List Nat} {g : AG} {y : Str} {py spos : Pos} (j : Nat) (hc : X.calm = true) (hN : X.N.Nodup) (hi : QI X B W tg iter ti) (ok : BlkOk X.N X.env.scope scope own) (hv : ∀ j, j ∈ ws → j ∈ own.map (·.2))
    (hg : Blk X scope fun Y => QG Y B W0 ws tg g) (ht : Blk X scope fun Y => QTs Y B W0 ifs tt) (he : Blk X scope fun Y => QE Y B W0 elt te) (hy : X.N[j]? = some y := by rfl) (hyl : X.env.scope.names.lookup y = some .local := by rfl)
    (hsw : swapsWith (.ListComp elt [⟨tg, iter, ifs, 0⟩] scope pos) (some (.Name y py)) spos.line X.env = pure true := by exact sw_true rfl rfl rfl (by decide +kernel)) (hs : ∀ x, foldedSetIterable iter X.env x = pure x := by intro _; rfl) :
    QS X B W (.Assign [.Name y py] (.ListComp elt [⟨tg, iter, ifs, 0⟩] scope pos) spos) (aAsg (aLc ti g tt te (own.map (·.2))) (agName j)) :=
  ps_imp (ps_setLc hc hN hy hyl hsw hi ok hg ht he hs) fun Dc s H ⟨G, σ, M, D, ss, h, kn, kr, kb, kc, kx⟩ =>
    lift_lc hv ⟨G, σ, M, _, D.xx, ss, h, fun v H1 ⟨x, M1, G1, e1, m1, r1, q1⟩ => kn _ H1 _ M1 G1 e1 ((ss.with e1 m1).set j r1) q1, kx⟩
end
end HA
/-! A6: what a def promises over trees; calls, methods, new instances; the end. -/
namespace HA
open PySem PySem.Spec L2

/-- things in, the memory, the wanted value, the wanted exception -/
abbrev ASp := List D → Mem → DK → AX → Prop
structure FA (P : Program) (w : World) (K : PySem.W.Frag) (mg : Str → Option Value) (base : Heap) (k : Nat) (f : Addr) (fd : FuncData) (ps : List Str) (sp : ASp) : Prop where
  len : ∀ ds M Q E, sp ds M Q E → ds.length = ps.length
  run : ∀ (A : Around) (outer : List Env) (s : Shared) (H : Hp) (args : Args) (us : List Value) (vs : List V) (ds : List D) (G : Hp) (M : Mem) (Q : DK) (E : AX), Room k A → A.guards = some [] → Env0 P w K mg base A outer s H → BindsTo s fd args (ps.zip us) → Vals vs us → SM K G M H → RpA K G ds vs → sp ds M Q E →
    codeAny (model P w) A (.call (.ref f) args) (CR (L2.CX P w) outer P w H s (Kv K G Q) (Kx K G E)) s
theorem FA.mono {P : Program} {w : World} {K : PySem.W.Frag} {mg : Str → Option Value} {base : Heap} {j k : Nat} {f : Addr} {fd : FuncData} {ps : List Str} {sp : ASp} (F : FA P w K mg base j f fd ps sp) (h : j ≤ k) : FA P w K mg base k f fd ps sp :=
  ⟨F.len, fun A outer s H args us vs ds G M Q E hr => F.run A outer s H args us vs ds G M Q E (hr.mono h)⟩
theorem FA.imp {P : Program} {w : World} {K : PySem.W.Frag} {mg : Str → Option Value} {base : Heap} {k : Nat} {f : Addr} {fd : FuncData} {ps : List Str} {sp sp' : ASp} (F : FA P w K mg base k f fd ps sp) (h : ∀ ds M Q E, sp' ds M Q E → sp ds M Q E) : FA P w K mg base k f fd ps sp' :=
  ⟨fun ds M Q E q => F.len ds M Q E (h _ _ _ _ q), fun A outer s H args us vs ds G M Q E hr hg he hb hv m r q => F.run A outer s H args us vs ds G M Q E hr hg he hb hv m r (h _ _ _ _ q)⟩

/-- things out of a row, by places -/
def pick {α : Type} (pm : List Nat) (zs : List α) : List α := pm.filterMap (zs[·]?)
theorem pick_rp {K : PySem.W.Frag} {G : Hp} {ds : List D} {vs : List V} (r : RpA K G ds vs) : ∀ pm : List Nat, RpA K G (pick pm ds) (pick pm vs)
  | [] => .nil
  | i :: pm => by
    have ih := pick_rp r pm
    unfold pick at ih ⊢
    simp only [List.filterMap_cons]
    cases e : ds[i]? with
    | none =>
      have e2 : vs[i]? = none := by rw [List.getElem?_eq_none_iff] at e ⊢; rw [← r.len]; exact e
      rw [e2]; exact ih
    | some d =>
      obtain ⟨v, h1, h2⟩ := r.get e
      rw [h1]; exact .cons h2 ih
theorem pick_vals {vs : List V} {us : List Value} (r : Vals vs us) : ∀ pm : List Nat, Vals (pick pm vs) (pick pm us)
  | [] => .nil
  | i :: pm => by
    have ih := pick_vals r pm
    unfold pick at ih ⊢
    simp only [List.filterMap_cons]
    cases e : vs[i]? with
    | none =>
      have e2 := r.none_of e
      rw [e2]; exact ih
    | some d =>
      obtain ⟨v, h1, h2⟩ := r.get e
      rw [h1]; exact .cons h2 ih

section
variable {X : Cx} {B : Hp} {W : WX} {k n : Nat} {f C : Addr} {fd : FuncData} {ps ks : List Str} {sp : ASp} {pm : List Nat} {x m : Str} {p pos apos : Pos} {e o : Expr} {es : List Expr} {kws : List Keyword} {ta : AE} {tas tks : AA}
/-- how a call with n things and the keywords ks binds -/
def Bnd (fd : FuncData) (ps : List Str) (n : Nat) (ks : List Str) (pm : List Nat) : Prop := ∀ us ws : List Value, us.length = n → ws.length = ks.length → bindArgs fd ⟨us, ks.zip ws⟩ = pure (ps.zip (pick pm (us ++ ws)))
theorem Wx.of {K : PySem.W.Frag} {G : Hp} {σ : AS} {M : Mem} {s : L2.St} {H : Hp} {E : AXs} (ss : SS K B G σ M s H) {cls : Value} {d : Option Addr} {H' : Hp} (h : Kx K G (E σ) cls d H') : Wx K B E cls d s H' := by
  obtain ⟨C, fs, a, vs, M', G', e1, e2, e3, m, h1, h2, q⟩ := h
  exact ⟨C, fs, a, vs, σ, M', G', e1, e2, ss.with e3 m, h1, h2, q⟩
theorem run_fa {pins : List (Addr × Obj)} {s : Shared} {st : L2.St} {H : Hp} {us ws : List Value} {vs zs : List V} {G : Hp} {σ : AS} {M : Mem} {Q : DK} {E : AXs} {ds es' : List D} {R : VK} (F : FA X.prog X.w X.K X.mg X.base k f fd ps sp) (hr : Room k X.A) (hg : X.A.guards = some []) (tk : Takes X W)
    (hb : Bnd fd ps n ks pm) (I : Inv X pins st H s) (ss : SS X.K B G σ M st H) (r : Vals vs us) (rz : Vals zs ws) (q1 : RpA X.K G ds vs) (q2 : RpA X.K G es' zs) (l1 : ds.length = n) (l2 : es'.length = ks.length) (h : sp (pick pm (ds ++ es')) M Q (E σ))
    (kq : ∀ v H', Kv X.K G Q v H' → R v H') (kx : ∀ c d s' H', Wx X.K B E c d s' H' → W c d s' H') : wpAny (model X.prog X.w) X.A (call (.ref f) us (ks.zip ws)) (EP X pins st R) X.xe s := by
  have b : BindsTo s fd ⟨us, ks.zip ws⟩ (ps.zip (pick pm (us ++ ws))) := .of_eq (hb us ws (by rw [← r.length, ← q1.len]; exact l1) (by rw [← rz.length, ← q2.len]; exact l2))
  refine wpAny_call (codeAny_mono (F.run X.A X.stack s H _ _ (pick pm (vs ++ zs)) (pick pm (ds ++ es')) G M Q (E σ) hr hg I.env0 b (pick_vals (r.append rz) pm) ss.mem (pick_rp (q1.app q2) pm) h) fun r s' hq => ?_)
  cases r with
  | error z => exact tk z s' (XE.of_call I (fun cls d H' hk => kx _ _ _ _ (Wx.of ss hk)) hq)
  | ok fl =>
    cases fl with
    | ret u =>
      obtain ⟨v, H', I', rv, q⟩ := I.after hq
      exact ⟨v, H', I', rv, kq v H' q⟩
    | next => exact False.elim hq
    | brk => exact False.elim hq
    | cont => exact False.elim hq

/-! ### keywords -/
def LK := LA
abbrev QK (X : Cx) (B : Hp) (W : WX) (kws : List Keyword) (t : AA) : Prop := PK X kws (LA X.K B W t)
theorem pk_imp {t t' : TA} (h : PK X kws t) (k : ∀ σ H Q, t' σ H Q → t σ H Q) : PK X kws t' := ⟨fun ps pins s σ H Q I q => h.run ps pins s σ H Q I (k σ H Q q)⟩
theorem qk_nil : QK X B W [] aNil := pk_imp pk_nil fun s H R ⟨G, σ, M, Q, E, ss, h, k, kx⟩ => k [] H [] M G (Same.refl G) ss.mem .nil h
theorem qk_cons {nm : Option Str} {kpos : Pos} (ha : QE X B W e ta) (hr : QK X B W kws tas) : QK X B W (⟨nm, e, kpos⟩ :: kws) (aCons ta tas) :=
  pk_imp (pk_cons ha hr) fun s H R ⟨G, σ, M, Q, E, ss, h, k, kx⟩ => ⟨G, σ, M, _, E, ss, h, fun v H1 ⟨x, M1, G1, e, m, r, q⟩ =>
    ⟨G1, σ, M1, _, E, ss.with e m, q, fun vs H2 ds M2 G2 e2 m2 r2 q2 => k (v :: vs) H2 (x :: ds) M2 G2 (e.trans e2) m2 (.cons (r.up e2) r2) q2, kx⟩, kx⟩

/-! ### f(e, .., k = v, ..) -/
@[simp] def aCall (sp : ASp) (n j : Nat) (pm : List Nat) (ta tk : AA) : AE := fun σ M Q E => ta σ M (fun us M1 => tk σ M1 (fun ws M2 => us.length = n ∧ ws.length = j ∧ sp (pick pm (us ++ ws)) M2 Q (E σ)) E) E
/-- a def of the module, as its callers see it -/
structure Cal (P : Program) (w : World) (K : PySem.W.Frag) (mg : Str → Option Value) (base : Heap) (k : Nat) (x : Str) (st : Stmt) (ps : List Str) (sp : ASp) : Prop where
  ex : ∃ f fd, Fun K x x st f fd ∧ mg x = some (.ref f) ∧ FA P w K mg base k f fd ps sp
/-- the binding, for any object of the def -/
def Bds (x qual : Str) (st : Stmt) (ps : List Str) (n : Nat) (ks : List Str) (pm : List Nat) : Prop := ∀ (kV doc pmv : Value) (an : Option Addr) (cdv ct : Value), Bnd (PySem.W.fnOf x qual (defArgs st) (defBody st) (defScope st) .none kV doc pmv an cdv ct) ps n ks pm
theorem Bds.of {qual : Str} {st : Stmt} (b : Bds x qual st ps n ks pm) {K : PySem.W.Frag} (F : Fun K x qual st f fd) : Bnd fd ps n ks pm := by
  obtain ⟨oc, od, kV, doc, pm', an, cdv, ct, osl, rfl, _, _⟩ := F.ex
  exact b _ _ _ _ _ _
theorem qe_call {st : Stmt} {j : Nat} (c : Cal X.prog X.w X.K X.mg X.base k x st ps sp) (hr : Room k X.A) (hg : X.A.guards = some []) (tk : Takes X W) (b : Bds x x st ps n ks pm) (ha : QA X B W (e :: es) tas) (hk : QK X B W kws tks) (hgl : Gl X x := by rfl) (hj : ks.length = j := by rfl)
    (hks : (backToKw pos (keywordEach kws X.env)).filterMap (·.1) = ks := by rfl) (hall : (backToKw pos (keywordEach kws X.env)).all (·.1.isSome) = true := by rfl)
    (hdb : (x == ("__debug__" : Str)) = false := by decide) (he : starEach (e :: es) X.env = (false, eval e X.env) :: starEach es X.env := by rfl)
    (hpl : ((backTo pos (starEach (e :: es) X.env)).any (·.1) || (backToKw pos (keywordEach kws X.env)).any (·.1.isNone)) = false := by rfl) : QE X B W (.Call (.Name x p) (e :: es) kws pos) (aCall sp n j pm tas tks) := by
  obtain ⟨f, fd, hF, hm, F⟩ := c.ex
  have bn := b.of hF
  subst hj
  refine ⟨fun pins s st' H R I ⟨G, σ, M, Q, E, ss, h, kq, kx⟩ => ?_⟩
  refine wpAny_Call_Name_kw (ld_glob I hgl hm ?_ hdb)
  refine PySem.W.callWith_KW (h₀ := X.base) I.ok.mod.kin hF.kp hall (thn (ha.run pos pins s st' H (fun vs H1 => ∃ ds M1 G1, Same G G1 ∧ SM X.K G1 M1 H1 ∧ RpA X.K G1 ds vs ∧ _) I ⟨G, σ, M, _, E, ss, h, fun vs H1 ds M1 G1 e1 m1 r1 q1 => ⟨ds, M1, G1, e1, m1, r1, q1⟩, kx⟩) fun us s1 ⟨vs, H1, I1, r, ds, M1, G1, e1, m1, r1, q1⟩ => ?_) hpl he
  refine thn (hk.run pos pins s1 st' H1 (fun vs H2 => ∃ es' M2 G2, Same G1 G2 ∧ SM X.K G2 M2 H2 ∧ RpA X.K G2 es' vs ∧ _) I1 ⟨G1, σ, M1, _, E, ss.with e1 m1, q1, fun vs H2 ds M2 G2 e2 m2 r2 q2 => ⟨ds, M2, G2, e2, m2, r2, q2⟩, kx⟩) fun ws s2 ⟨zs, H2, I2, rz, es', M2, G2, e2, m2, r2, l1, l2, q2⟩ => ⟨I2.kIn, ?_⟩
  rw [hks]
  exact run_fa F hr hg tk bn I2 (ss.with (e1.trans e2) m2) r rz (r1.up e2) r2 l1 l2 q2 (fun v H' kv => kq v H' (kv.lift (e1.trans e2))) kx
/-- f(k = v, ..), f() -/
theorem qe_call0 {st : Stmt} {j : Nat} (c : Cal X.prog X.w X.K X.mg X.base k x st ps sp) (hr : Room k X.A) (hg : X.A.guards = some []) (tk : Takes X W) (b : Bds x x st ps 0 ks pm) (hk : QK X B W kws tks) (hgl : Gl X x := by rfl) (hj : ks.length = j := by rfl)
    (hks : (backToKw pos (keywordEach kws X.env)).filterMap (·.1) = ks := by rfl) (hall : (backToKw pos (keywordEach kws X.env)).all (·.1.isSome) = true := by rfl)
    (hdb : (x == ("__debug__" : Str)) = false := by decide)
    (hpl : ((backTo pos (starEach [] X.env)).any (·.1) || (backToKw pos (keywordEach kws X.env)).any (·.1.isNone)) = false := by rfl) : QE X B W (.Call (.Name x p) [] kws pos) (aCall sp 0 j pm aNil tks) := by
  obtain ⟨f, fd, hF, hm, F⟩ := c.ex
  have bn := b.of hF
  subst hj
  refine ⟨fun pins s st' H R I ⟨G, σ, M, Q, E, ss, h, kq, kx⟩ => ?_⟩
  refine wpAny_Call_Name_kw (ld_glob I hgl hm ?_ hdb)
  refine PySem.W.callWith_KW0 (h₀ := X.base) I.ok.mod.kin hF.kp hall ?_ hpl
  refine thn (hk.run pos pins s st' H (fun vs H2 => ∃ es' M2 G2, Same G G2 ∧ SM X.K G2 M2 H2 ∧ RpA X.K G2 es' vs ∧ _) I ⟨G, σ, M, _, E, ss, h, fun vs H2 ds M2 G2 e2 m2 r2 q2 => ⟨ds, M2, G2, e2, m2, r2, q2⟩, kx⟩) fun ws s2 ⟨zs, H2, I2, rz, es', M2, G2, e2, m2, r2, l1, l2, q2⟩ => ⟨I2.kIn, ?_⟩
  rw [hks]
  exact run_fa (us := []) (vs := []) (ds := []) F hr hg tk bn I2 (ss.with e2 m2) .nil rz .nil r2 l1 l2 q2 (fun v H' kv => kq v H' (kv.lift e2)) kx
end

/-! ### the rule for a def -/
@[simp] def startA (N : List Str) (ds : List D) : AS := ds.map some ++ List.replicate (N.length - ds.length) none
abbrev BX (P : Program) (w : World) (K : PySem.W.Frag) (mg : Str → Option Value) (base : Heap) (N : List Str) (qual : Str) (st : Stmt) (f : Addr) (cdv : Value) (A : Around) (outer : List Env) (s : Shared) (H : Hp) (E : XK) : Cx := cxOf (L2.CX P w) P w K mg base N qual (defScope st) f cdv A outer s H E
section
variable {P : Program} {w : World} {K : PySem.W.Frag} {mg : Str → Option Value} {base : Heap} {x qual : Str} {st : Stmt} {f : Addr} {fd : FuncData} {N ps : List Str} {k : Nat} {sp : ASp} {t : ASt}
theorem fa_of (F : Fun K x qual st f fd) (S : FnScope N ps (defScope st)) (len : ∀ ds M Q E, sp ds M Q E → ds.length = ps.length)
    (hb : ∀ cdv A outer s H E B W, Room k (BX P w K mg base N qual st f cdv A outer s H E).A → (BX P w K mg base N qual st f cdv A outer s H E).A.guards = some [] → Takes (BX P w K mg base N qual st f cdv A outer s H E) W → PassesOwn (model P w) (BX P w K mg base N qual st f cdv A outer s H E).A (BX P w K mg base N qual st f cdv A outer s H E).env (BX P w K mg base N qual st f cdv A outer s H E).xe → QSs (BX P w K mg base N qual st f cdv A outer s H E) B W (defBody st) t)
    (h : ∀ ds M Q E, sp ds M Q E → t { nx := fun _ M' => Q .non M', rt := Q, xx := fun _ => E } (startA N ds) M) : FA P w K mg base (k + 1) f fd ps sp := by
  obtain ⟨oc, od, kV, doc, pm, an, cdv, ct, osl, rfl, lk, hcd⟩ := F.ex
  refine ⟨len, fun A outer s H args us vs ds G M Q E hr hg e0 hbd r m rp hs => ?_⟩
  have hl : vs.length = ps.length := by rw [← rp.len]; exact len _ _ _ _ hs
  have inK : K.In s.heap := e0.mod.kin.keeps fun b o z => (e0.bs b o z).1
  have nol : s.heap.NoLimit := e0.mod.nolimit.keeps fun b o z => (e0.bs b o z).1
  have kinds : ∀ y ∈ ps.zip us, (defScope st).names.lookup y.1 = some .local ∨ ((defScope st).names.lookup y.1 = some .cell ∧ ((cellsFrom (s.heap.objs.size + 1) (defScope st).names []).lookup y.1).isSome = true) := by
    rintro ⟨y, v⟩ hy
    exact (S.par y (List.of_mem_zip hy).1).imp id fun z => ⟨z, PySem.W.cellsFrom_some _ _ _ (.inl z)⟩
  refine codeAny_call_function hr.depth (inK _ _ lk) rfl S.co S.gen rfl (PySem.W.codeRec_of inK hcd) (hbd _ _ _ _ (wpAny_newFunctionEnv_cells S.kind kinds fun env ee s1 xx => ?_))
  subst ee
  refine ⟨nol.keeps xx.toInCall.keep, codeAny_func ?_⟩
  have I := inv_start (CX := L2.CX P w) (P := P) (w := w) (K := K) (mg := mg) (base := base) (cd := cdv) (E := Kx K G E) S hr.hd e0 hl r xx
  have tk := takes_of (X := BX P w K mg base N qual st f cdv A outer s H (Kx K G E)) (E := Kx K G E) rfl rfl rfl rfl
  have qb := hb cdv A outer s H (Kx K G E) G _ (hr.deeper _) hg tk (passes_of rfl)
  have e0l : (startA N ds).length = (L2.start N vs).length := by simp [startA, L2.start, rp.len]
  have ss : SS K G G (startA N ds) M (L2.start N vs) H := ⟨Same.refl G, m, e0l, fun i d hd => by
    unfold startA at hd
    unfold L2.start
    by_cases hi : i < ds.length
    · rw [List.getElem?_append_left (by simpa using hi), List.getElem?_map] at hd
      cases z : ds[i]? with
      | none => rw [z] at hd; cases hd
      | some y =>
        rw [z] at hd
        cases hd
        obtain ⟨v, h1, h2⟩ := rp.get z
        exact ⟨v, by rw [List.getElem?_append_left (by simp; rw [← rp.len]; exact hi), List.getElem?_map, h1]; rfl, h2⟩
    · rw [List.getElem?_append_right (by simpa using hi), List.getElem?_replicate] at hd
      split at hd <;> cases hd⟩
  have fin : ∀ {σ' : L2.St} {H' : Hp} {s' : Shared} {v : V} {u : Value}, Inv (BX P w K mg base N qual st f cdv A outer s H (Kx K G E)) [] σ' H' s' → RelV v u → Kv K G Q v H' → CE outer P w H s (Kv K G Q) u s' := fun J rv q => ⟨_, _, J.os, J.bare, J.base, J.hok, rv, q⟩
  refine wpAny_mono (qb.run [] s1 (L2.start N vs) H { nx := fun _ H' => Kv K G Q .non H', rt := Kv K G Q } I ⟨G, _, M, _, ss, h ds M Q E hs, fun s' H' σ' M' G' e' ss' q => ⟨.non, M', G', e', ss'.mem, .non, q⟩, fun v H' kv => kv, fun _ _ _ _ _ _ _ z => z, fun _ _ _ _ _ _ _ z => z, fun c d s' H' ⟨C, fs, a, vs, σ, M, G', e1, e2, s5, h1, h2, q⟩ => ⟨C, fs, a, vs, M, G', e1, e2, s5.base, s5.mem, h1, h2, q⟩⟩)
    (fun fl s' hs' => ?_) fun e s' hs' => hs'
  cases fl with
  | ret u => obtain ⟨v, σ', H', J, rv, q⟩ := hs'; exact fin J rv q
  | next => obtain ⟨σ', H', J, q⟩ := hs'; exact fin (v := .non) (u := .none) J rfl q
  | brk => obtain ⟨_, _, _, z⟩ := hs'; exact z.elim
  | cont => obtain ⟨_, _, _, z⟩ := hs'; exact z.elim
end
end HA
/-! A7: repr, isinstance; methods and new instances; the end of a law. -/
namespace HA
open PySem PySem.Spec L2

/-! ### repr -/
/-- what may be shown -/
def ShowOk (d : PyData) : Prop := d.showable = true ∧ d.shown.length ≤ sizeLine ∧ d.depth ≤ 60 ∧ d.hasDict = false
theorem call_reprD {X : Cx} (hu : X.A.units + 64 < cLine) (hg : X.A.guards = some []) : CallR X (.builtin "repr") (fun xs H Q => ∃ x d, xs = [x] ∧ Dp X.K H x d ∧ ShowOk d ∧ Q (.str d.shown) H) := by
  intro pins s st H xs us Q I r h
  obtain ⟨x, d, rfl, hd, ⟨h1, h2, h3, h4⟩, q⟩ := h
  obtain ⟨u, rfl, rx⟩ := vals1 r
  have fin : ∀ h' u tk, (∀ b o, s.heap.get? b = some o → h'.get? b = some o) → EP X pins st Q (.str d.shown u) { s with heap := h', toks := tk } := fun h' u tk k => ⟨.str d.shown, H, I.kept k, ⟨_, rfl⟩, q⟩
  cases hd with
  | non => cases rx; exact PySem.P.repr_of_none (fin s.heap _ _ fun _ _ e => e)
  | bl b => cases rx; exact PySem.P.repr_of_bool (fin s.heap _ _ fun _ _ e => e)
  | int i =>
    obtain ⟨t, rfl⟩ := rx
    exact PySem.P.repr_of_int (by simpa [PyData.showable] using h1) (fin s.heap _ _ fun _ _ e => e)
  | str z =>
    obtain ⟨t, rfl⟩ := rx
    exact PySem.P.repr_of_str (fin s.heap _ _ fun _ _ e => e) h2
  | lst hs ha =>
    obtain ⟨as, hr⟩ := Dp.reads I _ _ u (.lst hs ha) rx
    cases rx
    exact PySem.repr_of_reads' hr h1 (PyData.noDict_hsm h4) hg (by omega) (fun _ _ e => e) fin h2
  | tup hs ha =>
    obtain ⟨as, hr⟩ := Dp.reads I _ _ u (.tup hs ha) rx
    cases rx
    exact PySem.repr_of_reads' hr h1 (PyData.noDict_hsm h4) hg (by omega) (fun _ _ e => e) fin h2
def cRepr : AC := fun xs M Q => match xs with
  | [x] => ∃ d, DR M x d ∧ ShowOk d ∧ Q (.str d.shown) M
  | _ => False
section
variable {X : Cx}
theorem cb_repr (hu : X.A.units + 64 < cLine) (hg : X.A.guards = some []) : CallB X "repr" cRepr := ⟨_, call_reprD hu hg, fun G M H xs vs Q R m r h k => by
  match xs, h with
  | [x], ⟨d, h1, h2, h3⟩ =>
    obtain ⟨v, rfl, rv⟩ := rpa1 r
    exact ⟨v, d, rfl, h1.dp m rv, h2, k _ _ (.here m (.str _) h3)⟩⟩

/-! ### isinstance of built-in types -/
def isB (S T : String) : Bool := S == T || (S == "bool" && T == "int")
def tyTab : List String := ["int", "bool", "str", "tuple", "list"]
theorem kitB_tab : ∀ S ∈ ["NoneType", "bool", "int", "str", "tuple", "list"], ∀ T ∈ tyTab, kitB S T = some (isB S T) := by decide +kernel
/-- the type of a thing -/
def TyD (M : Mem) (x : D) (S : String) : Prop := match x with
  | .non => S = "NoneType"
  | .bl _ => S = "bool"
  | .int _ => S = "int"
  | .str _ => S = "str"
  | .tup _ => S = "tuple"
  | x => S = "list" ∧ isLs M x
theorem TyD.mem {M : Mem} {x : D} {S : String} (h : TyD M x S) : S ∈ ["NoneType", "bool", "int", "str", "tuple", "list"] := by
  unfold TyD at h
  split at h <;> first | (subst h; decide) | (obtain ⟨rfl, _⟩ := h; decide)
theorem TyD.x {K : PySem.W.Frag} {G H : Hp} {M : Mem} {x : D} {S : String} {v : V} (m : SM K G M H) (r : Rp K G x v) (h : TyD M x S) : TyX K H v (.type S) := by
  unfold TyD at h
  split at h
  · subst h; cases r; exact .base .non
  · subst h; cases r; exact .base (.bl _)
  · subst h; cases r; exact .base (.int _)
  · subst h; cases r; exact .base (.str _)
  · subst h
    obtain ⟨a, vs, rfl, p, t⟩ := rp_tup r
    rcases same_sqt m.same p with (p | ⟨o, p⟩) | ⟨o, its, n, p, c, _⟩
    · exact .base (.tup p)
    · exact .fTuple p
    · exact .kTuple p c
  · obtain ⟨rfl, xs, h⟩ := h
    refine lsAt m r h fun a vs e p t => ?_
    subst e
    rcases p with (p | ⟨o, p⟩) | ⟨o, its, n, p, c, _⟩
    · exact .base (.lst p)
    · exact .base (.frz p)
    · exact .kList p c
def cIsi : AC := fun xs M Q => match xs with
  | [x, .ty T] => ∃ S, TyD M x S ∧ T ∈ tyTab ∧ Q (.bl (isB S T)) M
  | [x, .tup cs] => ∃ (S : String) (Ts : List String), TyD M x S ∧ cs = Ts.map D.ty ∧ (∀ T ∈ Ts, T ∈ tyTab) ∧ Q (.bl (Ts.any (isB S))) M
  | _ => False
theorem kit_any {K : PySem.W.Frag} {S : String} (hS : S ∈ ["NoneType", "bool", "int", "str", "tuple", "list"]) : ∀ Ts : List String, (∀ T ∈ Ts, T ∈ tyTab) → PySem.W.kitAny K (.type S) (Ts.map Value.type) = some (Ts.any (isB S))
  | [], _ => kitAny_nil
  | T :: r, h => by
    have h1 := kit_ty (K := K) (kitB_tab S hS T (h T (by simp)))
    refine kitAny_cons h1 (fun e => ?_) fun e => ?_
    · rw [kit_any hS r fun T hT => h T (List.mem_cons_of_mem _ hT)]
      simp [e]
    · simp [e]
theorem ty_vs {K : PySem.W.Frag} {G : Hp} : ∀ {Ts : List String} {vs : List V}, RpA K G (Ts.map D.ty) vs → vs = Ts.map V.ty
  | [], _, h => by cases h; rfl
  | n :: r, _, h => by
    cases h with
    | cons a b => cases a; rw [ty_vs b]; rfl
theorem ty_cls : ∀ Ts : List String, Paired ClsV (Ts.map V.ty) (Ts.map Value.type)
  | [] => .nil
  | n :: r => .cons (.ty n) (ty_cls r)
theorem ty_vals : ∀ {Ts : List String} {us : List Value}, Vals (Ts.map V.ty) us → us = Ts.map Value.type
  | [], _, h => by cases h; rfl
  | n :: r, _, h => by
    cases h with
    | cons a b => rw [ty_vals b, show _ = Value.type n from a]; rfl
theorem cb_isi : CallB X "isinstance" cIsi := ⟨_, (call_isi.or call_isiT).or call_isiK, fun G M H xs vs Q R m r h k => by
  unfold cIsi at h
  split at h
  · obtain ⟨S, h1, h2, h3⟩ := h
    obtain ⟨v, w, rfl, r1, r2⟩ := rpa2 r
    cases r2
    exact .inl <| .inl ⟨v, _, _, _, _, rfl, .ty _, h1.x m r1, kit_ty (kitB_tab S h1.mem _ h2), k _ _ (.here m (.bl _) h3)⟩
  · obtain ⟨S, Ts, h1, h2, h3, h4⟩ := h
    obtain ⟨v, w, rfl, r1, r2⟩ := rpa2 r
    subst h2
    obtain ⟨a, ws, rfl, p, t⟩ := rp_tp r2
    have e := ty_vs t
    subst e
    have ka := kit_any (K := X.K) h1.mem Ts h3
    rcases p with p | ⟨⟨oc, od, dt, sl⟩, its, n, p1, p2, p3, _, p4⟩
    · exact .inl (.inr ⟨v, a, _, _, _, _, rfl, m.same _ _ p, ty_cls Ts, h1.x m r1, ka, k _ _ (.here m (.bl _) h4)⟩)
    · simp only at p2 p3
      subst p2 p3
      have e2 := ty_vals p4
      refine .inr ⟨v, a, od, Ts.map Value.type, n, sl, _, _, rfl, ?_, h1.x m r1, ka, k _ _ (.here m (.bl _) h4)⟩
      rw [p1, ← e2]
  · exact h.elim⟩
end
end HA
/-! A8: the end: a law's def over the head. -/
namespace HA
open PySem PySem.Spec L2
section
variable {P : Program} {w : World} {K : PySem.W.Frag} {mg mb : Str → Option Value} {k : Nat} {fa a : Addr} {fd : FuncData} {x : Str} {sp : ASp} {s₁ : Shared} {vs : List Value} {ns : List Int}
/-- the law's call where the abstract heap H holds at most the script -/
theorem end_core {H : Hp} (KX : K.In s₁.heap) (hns : s₁.heap.Ns mainGlobals mg) (hb : s₁.heap.Ns builtinsNs mb) (hbb : ∀ x : Str, x ≠ "__name__" → mb x = bootBuiltins x) (hlim : s₁.heap.NoLimit) (hg : s₁.gens = #[])
    (ha : s₁.heap.get? a = some { cls := .type "list", data := .seq vs.toArray }) (hr : Room k callerA)
    (F : ∀ base : Heap, K.In base → base.Ns mainGlobals mg → FA P w K mg base k fa fd [x] sp) (hbind : ∀ (s : Shared) (u : Value), BindsTo s fd ⟨[u], []⟩ [(x, u)])
    (hsp : sp [.frz (ns.map D.int)] (fun _ => none) (fun v _ => v = .bl true) (fun _ _ _ => False))
    (hS : SqL K H a (ns.map V.int)) (ok : HOk P w H s₁.heap) (hA : ∀ b o, H b = some o → b = a ∧ K.lookup a = none ∧ ∃ ob, s₁.heap.get? a = some ob ∧ ∃ u, o = .frz ob u) :
    codeAny (model P w) callerA (.call (.ref fa) ⟨[.ref a], []⟩) (fun r s' => r = .ok (.ret (.bool true)) ∧ OldK s₁.heap s'.heap ∧ s'.os = s₁.os ∧ PyProof.Rows.AllBare s'.gens) s₁ := by
  have free : ∀ b, b ≠ a → H b = none := fun b hb => by
    cases q : H b with
    | none => rfl
    | some u => exact absurd (hA b u q).1 hb
  have dictFree : ∀ {b : Addr} {o : Obj} {es : Array DictEntry} {ep : Nat}, s₁.heap.get? b = some o → o.data = .dict es ep → H b = none := fun {b o es ep} e d => free b fun z => by
    subst z; rw [ha] at e; cases e
    exact absurd (show Data.seq vs.toArray _ = Data.dict es ep from d) (fun z => by cases z)
  have keepNs : ∀ {b : Addr} {m : Str → Option Value}, s₁.heap.Ns b m → (hidT s₁.heap H).Ns b m := fun {b m} ⟨o, es, ep, e, d, r⟩ => ⟨o, es, ep, hidT_get e (dictFree e d), d, r⟩
  have keepK : K.In (hidT s₁.heap H) := fun b o e => hidT_get (KX b o e) (by
    cases q : H b with
    | none => rfl
    | some u => obtain ⟨rfl, h2, _⟩ := hA b u q; rw [h2] at e; cases e)
  have modOk : Mod K mg (hidT s₁.heap H) := ⟨keepK, keepNs hns, ⟨mb, keepNs hb, hbb⟩, hlim.imp fun mc z => ⟨keepNs z.1, z.2⟩⟩
  have env : Env0 P w K mg (hidT s₁.heap H) callerA [] s₁ H := ⟨rfl, modOk, fun b o e => of_hidT e, Nat.le_of_eq (hidT_size _ _), trivial, fun b z => absurd (show b ∈ ([] : List Addr) from z) (by simp), ok, .of_eq hg⟩
  have mem : SM K H (fun _ => none) H := ⟨Same.refl H, fun a c e => by cases e⟩
  refine codeAny_mono ((F _ keepK (keepNs hns)).run callerA [] s₁ H ⟨[.ref a], []⟩ [.ref a] [.ref a] _ H _ _ _ hr rfl env (hbind s₁ (.ref a)) (.cons rfl .nil) mem (.cons (.frz hS (.ints ns)) .nil) hsp) fun r s' h => ?_
  cases r with
  | error e =>
    obtain ⟨_, _, _, _, _, _, _, _, _, _, _, _, z⟩ := h
    obtain ⟨_, _, _, _, _, _, _, _, _, _, _, _, z⟩ := z
    exact z.elim
  | ok fl =>
    cases fl with
    | next => exact h.elim
    | brk => exact h.elim
    | cont => exact h.elim
    | ret u =>
      obtain ⟨v, H', os, bare, un, ok', r', d, M', G', _, _, rd, q⟩ := h
      subst q
      cases rd
      obtain rfl : u = Value.bool true := r'
      refine ⟨rfl, OldK.of_keep fun b o e => ?_, os, bare⟩
      cases q : H b with
      | none => exact un.keep b o e q (fun z => absurd (show b ∈ ([] : List Addr) from z) (by simp)) (by simp)
      | some u =>
        obtain ⟨rfl, _, ob, e0, u', rfl⟩ := hA b u q
        rw [e] at e0
        cases e0
        exact (ok' _ _ (un.frzs _ _ _ q)).1
theorem end_call (KX : K.In s₁.heap) (hns : s₁.heap.Ns mainGlobals mg) (hb : s₁.heap.Ns builtinsNs mb) (hbb : ∀ x : Str, x ≠ "__name__" → mb x = bootBuiltins x) (hlim : s₁.heap.NoLimit) (hg : s₁.gens = #[])
    (ha : s₁.heap.get? a = some { cls := .type "list", data := .seq vs.toArray }) (hi : PyProof.Rows.IntsAre vs ns) (hl : ns.length ≤ sizeLine) (hr : Room k callerA)
    (F : ∀ base : Heap, K.In base → base.Ns mainGlobals mg → FA P w K mg base k fa fd [x] sp) (hbind : ∀ (s : Shared) (u : Value), BindsTo s fd ⟨[u], []⟩ [(x, u)])
    (hsp : sp [.frz (ns.map D.int)] (fun _ => none) (fun v _ => v = .bl true) (fun _ _ _ => False)) :
    codeAny (model P w) callerA (.call (.ref fa) ⟨[.ref a], []⟩) (fun r s' => r = .ok (.ret (.bool true)) ∧ OldK s₁.heap s'.heap ∧ s'.os = s₁.os ∧ PyProof.Rows.AllBare s'.gens) s₁ := by
  have rv := vals_ints hi
  have lenV := hi.length
  cases hk : K.lookup a with
  | some o =>
    have e := KX a o hk
    rw [ha] at e
    cases e
    refine end_core (H := fun _ => none) KX hns hb hbb hlim hg ha hr F hbind hsp (.inr ⟨_, vs.toArray, _, hk, rfl, rfl, rfl, ?_, by simpa using rv⟩) (fun b u z => by cases z) fun b u z => by cases z
    rw [List.size_toArray, lenV]; exact hl
  | none =>
    let ob : Obj := { cls := .type "list", data := .seq vs.toArray }
    refine end_core (H := fun b => if b = a then some (.frz ob (.lst (ns.map V.int))) else none) KX hns hb hbb hlim hg ha hr F hbind hsp (.inl (.inr ⟨ob, if_pos rfl⟩)) (fun b u z => ?_) fun b u z => ?_
    · by_cases hb : b = a
      · subst hb
        have z' := (if_pos rfl).symm.trans z
        cases z'
        exact ⟨ha, by rw [List.length_map]; exact hl, vs, _, rv, ha⟩
      · exact absurd ((if_neg hb).symm.trans z) (fun q => by cases q)
    · by_cases hb : b = a
      · subst hb
        have z' := (if_pos rfl).symm.trans z
        cases z'
        exact ⟨rfl, hk, ob, ha, _, rfl⟩
      · exact absurd ((if_neg hb).symm.trans z) (fun q => by cases q)
end
/-- what a law promises: True, whatever the script -/
def spLaw : ASp := fun ds M Q _ => ∃ ns : List Int, ds = [.frz (ns.map D.int)] ∧ ns.length ≤ 63 ∧ (∀ z ∈ ns, z.natAbs < 2 ^ big) ∧ (∀ a, M a = none) ∧ ∀ M', Q (.bl true) M'
theorem bits_lt {z : Int} (h : Builtin.Int.intBits z ≤ 1048576) : z.natAbs < 2 ^ big := by
  have e := Nat.lt_log2_self (n := z.natAbs)
  have hb : Builtin.Int.intBits z ≤ big := by unfold big; exact h
  refine Nat.lt_of_lt_of_le (m := 2 ^ Builtin.Int.intBits z) ?_ (Nat.pow_le_pow_right (by decide) hb)
  unfold Builtin.Int.intBits
  by_cases h0 : z = 0
  · subst h0; exact Nat.two_pow_pos _
  · rw [if_neg (by simpa using h0)]; exact e
theorem walk_A {l : PySem.W.OpenLaw} {k : Nat} {q : Program} {loose : List Str} {XP : (Str → Option Value) → Heap → Prop} {YP : World → Heap → Prop} {d : DefRec} {K : Params → PySem.W.Frag} {x : Str}
    (hn : l.most = some 63) (hdf : d.params.defaults = []) (hr : Room k callerA)
    (hY : ∀ (w : World) (h : Heap), YP w h → (K w.params).In h)
    (F : ∀ (w : World) (mg : Str → Option Value) (fa : Addr) (h : Heap), (K w.params).In h → h.Ns mainGlobals mg → mg d.name = some (.ref fa) →
      ∃ fd : FuncData, (∀ (s : Shared) (u : Value), BindsTo s fd ⟨[u], []⟩ [(x, u)]) ∧ ∀ base : Heap, (K w.params).In base → base.Ns mainGlobals mg → FA l.prog w (K w.params) mg base k fa fd [x] spLaw) :
    PySem.W.WalkO q loose XP YP l.row.toRowW d [] (fun f vs => PySem.call f vs) := by
  refine Att.attach_callB hn hdf fun w s₀ s₁ mg mb fa o pm cd doc a vs ns G Y ho hd hcd hmg hobj hints hlen hbits hgen => ?_
  obtain ⟨fd, hb, hF⟩ := F w mg fa _ (hY w _ Y) G.T.g hmg
  exact end_call (hY w _ Y) G.T.g G.T.b G.T.builtins G.T.nolimit hgen hobj hints (Nat.le_trans hlen (by decide)) hr hF hb ⟨ns, rfl, hlen, fun z hz => bits_lt (hbits z hz), fun _ => rfl, fun _ => rfl⟩
end HA
/-! A9: short names for what a program prints. -/
namespace HA
open PySem PySem.Spec L2
abbrev oAdd : A2 := bAdd
abbrev oSub : A2 := bI0 fun i j => i - j
abbrev oMod : A2 := bI ModOk fun i j => i % j
abbrev oDiv : A2 := bI DivOk fun i j => i / j
abbrev oPow : A2 := bI CPow fun i j => i ^ j.toNat
abbrev oShl : A2 := bI ShlOk fun i j => i * 2 ^ j.toNat
abbrev oShr : A2 := bI ShrOk fun i j => i / 2 ^ j.toNat
abbrev oAnd : A2 := bI0 Builtin.bitAnd
abbrev oOr : A2 := bI0 Builtin.bitOr
abbrev oXor : A2 := bI0 Builtin.bitXor
abbrev oLt : A2 := bC fun i j => decide (i < j)
abbrev oLe : A2 := bC fun i j => decide (i ≤ j)
abbrev oGt : A2 := bC fun i j => decide (j < i)
abbrev oGe : A2 := bC fun i j => decide (j ≤ i)
abbrev oEq : A2 := bEq false
abbrev oNe : A2 := bEq true
abbrev oIs : A2 := bIsN false
abbrev oIsNot : A2 := bIsN true
section
variable {X : Cx} {B : Hp} {W : WX} {a b c e o i tg : Expr} {es rest : List Expr} {ta tb tc te : AE} {tt tu : AT} {tas : AA} {ti : AI} {pos p : Pos}
/-- a product: ints; a tuple or a list and an int -/
@[simp] def bMul : A2 := fun x y M Q => match x, y with
  | .int i, .int j => MulOk i j ∧ Q (.int (i * j)) M
  | _, _ => False
abbrev oMul : A2 := bMul
theorem bMul_ok {K : PySem.W.Frag} : OkR K bMul (rI MulOk fun i j => .int (i * j)) := fun G M H x y xv yv Q R m rx ry h k => by
  match x, y, h with
  | .int i, .int j, h => exact ⟨i, j, rp_int rx, rp_int ry, h.1, k _ _ (.here m (.int _) h.2)⟩
theorem qe_mul (ha : QE X B W a ta) (hb : QE X B W b tb) : QE X B W (.BinOp a .Mult b pos) (aOp bMul ta tb) := qe_op op_mulO bMul_ok ha hb
theorem qe_gint {x : Str} {i : Int} (h : ∃ t, X.mg x = some (.int i t)) (hg : Gl X x := by rfl) (hd : (x == ("__debug__" : Str)) = false := by decide) : QE X B W (.Name x pos) (aC (.int i)) := by
  obtain ⟨t, h⟩ := h
  exact qe_glob (v := .int i) hg h ⟨t, rfl⟩ (fun _ => .int i) hd
theorem qe_gstr {x : Str} {i : Str} (h : ∃ t, X.mg x = some (.str i t)) (hg : Gl X x := by rfl) (hd : (x == ("__debug__" : Str)) = false := by decide) : QE X B W (.Name x pos) (aC (.str i)) := by
  obtain ⟨t, h⟩ := h
  exact qe_glob (v := .str i) hg h ⟨t, rfl⟩ (fun _ => .str i) hd
/-- a list or a tuple walked -/
@[simp] def aWalk (te : AE) : AI := fun σ M Q E => te σ M (fun x M1 => match x with
  | .tup xs => Q xs (fun _ => True) M1
  | x => ∃ xs, LsAt M1 x xs ∧ Q xs (still x xs) M1) E
section
variable {pins : List (Addr × Obj)} {s : Shared} {sc : L2.St} {H : Hp} {ad : Addr} {vs : List V} {R : It → Hp → Prop}
theorem it_list (I : Inv X pins sc H s) (hq : SqL X.K H ad vs) (q : R (Itl X.K ad) H) : wpAny (model X.prog X.w) X.A (pyIter (.ref ad)) (PIE X pins sc tg R) X.xe s := by
  obtain ⟨its, rv, pl, hz⟩ := I.list hq
  refine wpAny_pyIter_list pl.isList ⟨s.heap.objs.size, [s.heap.objs.size], _, _, H, rfl, I.kept (t' := s.toks) fun b o e => Heap.get?_push_of_some _ e, turn_list ad _, ⟨_, Heap.get?_push_size _ rfl, rfl, rfl⟩, ?_, q⟩
  intro b hb
  obtain rfl : b = s.heap.objs.size := by simpa using hb
  exact I.fpOk (Nat.le_refl _) (I.hok.fresh (Nat.le_refl _))
theorem it_tup (I : Inv X pins sc H s) (hq : SqT X.K H ad vs) (q : R (Itt X.K ad) H) : wpAny (model X.prog X.w) X.A (pyIter (.ref ad)) (PIE X pins sc tg R) X.xe s := by
  obtain ⟨its, rv, pl, hz⟩ := I.tuple hq
  refine wpAny_pyIter_tuple (show s.heap.IsTuple ad its.toArray from pl) ⟨s.heap.objs.size, [s.heap.objs.size], _, _, H, rfl, I.kept (t' := s.toks) fun b o e => Heap.get?_push_of_some _ e, turn_tuple ad _, ⟨_, Heap.get?_push_size _ rfl, rfl, rfl⟩, ?_, q⟩
  intro b hb
  obtain rfl : b = s.heap.objs.size := by simpa using hb
  exact I.fpOk (Nat.le_refl _) (I.hok.fresh (Nat.le_refl _))
end
theorem qi_seq (he : QE X B W e te) : QI X B W tg e (aWalk te) := ⟨fun pins s sc H R I ⟨G, σ, M, Q, E, ss, h, k, kx⟩ => by
  refine thn (he.run pins s sc H (Kv X.K G fun x M1 => match x with
    | .tup xs => Q xs (fun _ => True) M1
    | x => ∃ xs, LsAt M1 x xs ∧ Q xs (still x xs) M1) I ⟨G, σ, M, _, E, ss, h, fun v H' kv => kv, kx⟩) fun v s1 ⟨x, H1, I1, r1, d, M1, G1, e1, m1, rd, q⟩ => ?_
  dsimp only at q
  split at q
  · rename_i xs
    obtain ⟨a, vs, rfl, p, t⟩ := rp_tup rd
    cases r1
    refine it_tup I1 (same_sqt m1.same p) (k _ H1 xs _ M1 G1 e1 m1 (itok_tup fun G' M' H' e' m' s' => ?_) q)
    exact ⟨vs, same_sqt m'.same (same_sqt e' p), t.up e'⟩
  · obtain ⟨xs, h1, q⟩ := q
    have ok : ∀ a, x = .ref a → ItOk X.K G1 xs (still d xs) (Itl X.K a) := fun a ea => itok_list fun G' M' H' e' m' s' => by
      have r' := rd.up e'
      match d, h1, s', r' with
      | .lst ys, h1, s', r' => cases h1; cases r' with | lst g t => cases ea; exact ⟨_, .of (m'.same _ _ g), t⟩
      | .frz ys, h1, s', r' => cases h1; cases r' with | frz g t => cases ea; exact ⟨_, m'.same.seq g, t⟩
      | .ref b, h1, s', r' => cases r'; cases ea; obtain ⟨vs, t, eH⟩ := cellL m' s'; exact ⟨vs, .of eH, t⟩
    refine lsAt m1 rd h1 fun a vs ea p t => ?_
    have ok2 := ok a ea
    subst ea
    cases r1
    exact it_list I1 p (k _ H1 xs _ M1 G1 e1 m1 ok2 q)⟩
end
theorem bB_len : bootBuiltins "len" = some (.builtin "len") := by decide +kernel
theorem bB_abs : bootBuiltins "abs" = some (.builtin "abs") := by decide +kernel
theorem bB_max : bootBuiltins "max" = some (.builtin "max") := by decide +kernel
theorem bB_min : bootBuiltins "min" = some (.builtin "min") := by decide +kernel
theorem bB_repr : bootBuiltins "repr" = some (.builtin "repr") := by decide +kernel
theorem bB_isinstance : bootBuiltins "isinstance" = some (.builtin "isinstance") := by decide +kernel
theorem bB_sum : bootBuiltins "sum" = some (.builtin "sum") := by decide +kernel
theorem bB_sorted : bootBuiltins "sorted" = some (.builtin "sorted") := by decide +kernel
theorem bB_all : bootBuiltins "all" = some (.builtin "all") := by decide +kernel
theorem bB_any : bootBuiltins "any" = some (.builtin "any") := by decide +kernel
theorem bT_int : bootBuiltins "int" = some (.type "int") := by decide +kernel
theorem bT_bool : bootBuiltins "bool" = some (.type "bool") := by decide +kernel
theorem bT_str : bootBuiltins "str" = some (.type "str") := by decide +kernel
theorem bT_tuple : bootBuiltins "tuple" = some (.type "tuple") := by decide +kernel
theorem bT_list : bootBuiltins "list" = some (.type "list") := by decide +kernel
end HA
/-! A10: t[::-1] of a tuple; observing no memory; freezing; drawn deals; loops. -/
namespace HA
open PySem PySem.Spec PyProof.Rows L2

/-! ### t[::-1] -/
theorem rev_places (n : Nat) : Builtin.Slice.slicePlaces ((n : Int) - 1) (-1) (-1) = n := by
  unfold Builtin.Slice.slicePlaces
  rw [if_neg (by decide)]
  by_cases h : n = 0
  · subst h; rfl
  · rw [if_pos (by omega)]
    have e : (n : Int) - 1 - -1 - 1 = (n : Int) - 1 := by omega
    have e2 : (- -1 : Int) = 1 := by decide
    rw [e, e2, Int.ediv_one]
    omega
theorem rev_items (its : List Value) : ((List.range its.length).filterMap fun (k : Nat) => its.toArray[(((its.length : Int) - 1) + (k : Int) * -1).toNat]?) = its.reverse := by
  apply List.ext_getElem?
  intro i
  have key : ∀ m, m ≤ its.length → ((List.range m).filterMap fun (k : Nat) => its.toArray[(((its.length : Int) - 1) + (k : Int) * -1).toNat]?) = its.reverse.take m := by
    intro m
    induction m with
    | zero => intro _; rfl
    | succ m ih =>
      intro hm
      rw [List.range_succ, List.filterMap_append, ih (by omega), List.take_succ]
      congr 1
      have e : (((its.length : Int) - 1) + (m : Int) * -1).toNat = its.length - 1 - m := by omega
      simp only [List.filterMap_cons, List.filterMap_nil, e]
      have h1 : its.reverse[m]? = its[its.length - 1 - m]? := List.getElem?_reverse (by omega)
      rw [h1]
      have h2 : its.toArray[its.length - 1 - m]? = its[its.length - 1 - m]? := by simp
      rw [h2]
      cases its[its.length - 1 - m]? <;> rfl
  rw [key its.length (Nat.le_refl _), List.take_of_length_le (by simp)]
section
variable {prog : Program} {w : World} {A : Around} {E : Value → Shared → Prop} {s : Shared}
theorem tuple_rev_item {t sl : Addr} {its : List Value} {tk : Tok} {Q : Value → Shared → Prop} (ht : IsTup s.heap t its.toArray) (hs : s.heap.IsSliceOf sl .none .none (.int (-1) tk)) (hz : its.length ≤ sizeLine)
    (h : Q (.ref s.heap.objs.size) { s with heap := s.heap.push { cls := .type "tuple", data := .seq its.reverse.toArray } }) : wpAny (model prog w) A (getItem (.ref t) (.ref sl)) Q E s := by
  have big : sizeOk (.seq its.reverse.toArray) := by
    show its.reverse.toArray.size ≤ sizeLine
    rw [List.size_toArray, List.length_reverse]; exact hz
  have ty : s.TypeIs (.ref sl) "slice" := let ⟨o, a, b, _⟩ := hs; ⟨o, a, b⟩
  obtain ⟨os, hos, _, hds⟩ := hs
  unfold getItem
  try with_reducible refine wpAny_holding ?_
  first | refine wpAny_bind (wpAny_pure ?_) | skip
  refine wpAny_bind (wpAny_sequenceKey ht.typeIs (by decide) ?_)
  refine wpAny_bind (wpAny_callSpecial?_slot (name := Str.ofString "__getitem__") ht.typeIs slot_tuple_getitem (wpAny_call_entry slot_tuple_getitem ht.typeIs entry_tuple_getitem ?_ (args_tuple_getitem _ _)))
  show wpAny _ _ (Builtin.Tuple.tupleItemsOf (.ref t) >>= _) _ _ s
  refine wpAny_bind (tupleItemsOf_ ht (wpAny_bind (wpAny_typeOf ty ?_)))
  rw [if_pos (by decide)]
  refine wpAny_bind ?_
  unfold Builtin.Slice.sliceApplied Builtin.Slice.sliceFields
  refine wpAny_bind (wpAny_bind (wpAny_field hos hds (x := .none) rfl (wpAny_bind (wpAny_field hos hds (x := .none) rfl (wpAny_bind (wpAny_field hos hds (x := .int (-1) tk) rfl (wpAny_pure ?_)))))))
  refine wpAny_bind (HT.slicePart_ (.int (-1) tk) ?_)
  show wpAny _ _ (if ((-1 : Int) == 0) = true then _ else _) _ _ s
  rw [if_neg (by decide)]
  refine wpAny_bind (HT.slicePart_ .none (wpAny_bind (HT.slicePart_ .none (wpAny_bind (wpAny_pure ?_)))))
  have ea : Builtin.Slice.sliceAdjust none none (-1) ((its.toArray.size : Nat) : Int) = ((its.length : Int) - 1, -1) := by
    unfold Builtin.Slice.sliceAdjust
    simp
  show wpAny _ _ (match Builtin.Slice.sliceAdjust none none (-1) ((its.toArray.size : Nat) : Int) with | (lo, hi) => pure (lo, (-1 : Int), Builtin.Slice.slicePlaces lo hi (-1))) _ _ s
  rw [ea]
  show wpAny _ _ (pure ((its.length : Int) - 1, (-1 : Int), Builtin.Slice.slicePlaces ((its.length : Int) - 1) (-1) (-1))) _ _ s
  rw [rev_places]
  refine wpAny_pure ?_
  have hno : ¬ ((((its.length : Int) - 1) == 0 && (-1 : Int) == 1 && its.length == its.toArray.size) = true) := by
    have : ((-1 : Int) == 1) = false := by decide
    rw [this, Bool.and_false, Bool.false_and]
    exact Bool.false_ne_true
  show wpAny _ _ (if ((((its.length : Int) - 1) == 0 && (-1 : Int) == 1 && its.length == its.toArray.size) = true) then _ else _) _ _ s
  rw [if_neg hno, rev_items]
  first
    | exact wpAny_bind (m := Builtin.Tuple.tupleExact _) (wpAny_newObj_type (wpAny_pure ⟨_, rfl, wpAny_pure h⟩) big)
    | exact wpAny_bind (m := Builtin.Tuple.tupleExact _) (wpAny_newObj_type (wpAny_bind (wpAny_pure (wpAny_pure ⟨_, rfl, wpAny_pure h⟩))) big)
    | exact wpAny_bind (wpAny_bind (m := Builtin.Tuple.tupleExact _) (wpAny_newObj_type (wpAny_pure (wpAny_pure ⟨_, rfl, wpAny_pure h⟩)) big))
    | exact wpAny_bind (wpAny_bind (m := Builtin.Tuple.tupleExact _) (wpAny_newObj_type (wpAny_pure ⟨_, rfl, wpAny_pure h⟩) big))
end

section
variable {X : Cx} {B : Hp} {W : WX} {e : Expr} {te : AE} {pos : Pos}
/-- x[::-1] of a tuple or a list -/
@[simp] def aRev (te : AE) : AE := fun σ M Q E => te σ M (fun x M1 => match x with
  | .tup xs => Q (.tup xs.reverse) M1
  | x => ∃ xs, LsAt M1 x xs ∧ ∀ p, M1 p = none → Q (.ref p) (mset M1 p (.lst xs.reverse))) E
def tRevT (K : PySem.W.Frag) (te : TE) : TE := fun σ H Q => te σ H fun x H1 => ∃ a xs, x = .ref a ∧ SqT K H1 a xs ∧ ∀ p, H1 p = none → Q (.ref p) (upd H1 p (.tup xs.reverse))
theorem pe_revB {e : Expr} {te : TE} {k : Nat} {p1 p2 p3 pos : Pos} (he : PE X e te) : PE X (.Subscript e (.Slice none none (some (.UnaryOp .USub (.Constant (.int 1) k p1) p2)) p3) pos)
    (fun σ H Q => te σ H fun x H1 => (∃ a xs, x = .ref a ∧ SqT X.K H1 a xs ∧ ∀ p, H1 p = none → Q (.ref p) (upd H1 p (.tup xs.reverse))) ∨ ∃ a xs, x = .ref a ∧ SqL X.K H1 a xs ∧ ∀ p, H1 p = none → Q (.ref p) (upd H1 p (.lst xs.reverse))) := by
  refine ⟨fun pins s σ H Q I h => ?_⟩
  refine Subscript_ (thn (he.run pins s σ H _ I h) fun v s1 ⟨x, H1, I1, r1, q1⟩ => ?_)
  have hst : PO X (some (.UnaryOp .USub (.Constant (.int 1) k p1) p2)) (tPart (tUn (rU fun i => .int (-i)) (tC (.int 1)))) := po_some (pe_un un_neg pe_int)
  refine wpAny_Slice (thn (po_none.run pins s1 σ H1 (fun o H2 => o = none ∧ H2 = H1) I1 ⟨rfl, rfl⟩) fun vl s2 ⟨l, H2, I2, pl, el, e2⟩ => ?_)
  subst el e2
  refine thn (po_none.run pins s2 σ H2 (fun o H3 => o = none ∧ H3 = H2) I2 ⟨rfl, rfl⟩) fun vu s3 ⟨u, H3, I3, pu, eu, e3⟩ => ?_
  subst eu e3
  refine thn (hst.run pins s3 σ H3 (fun o H4 => o = some (-1) ∧ H4 = H3) I3 ⟨1, rfl, -1, rfl, rfl, rfl⟩) fun vs s4 ⟨o, H4, I4, ps, eo, e4⟩ => ?_
  subst eo e4
  have I5 : Inv X pins σ H4 { s4 with heap := s4.heap.push { cls := .type "slice", data := .fields #[vl, vu, vs] } } := I4.kept (t' := s4.toks) fun b ob q => Heap.get?_push_of_some _ q
  show wpAny (model X.prog X.w) X.A (subscriptTail e (.Slice none none (some (.UnaryOp .USub (.Constant (.int 1) k p1) p2)) p3) v (.ref s4.heap.objs.size)) (EP X pins σ Q) X.xe { s4 with heap := s4.heap.push { cls := .type "slice", data := .fields #[vl, vu, vs] } }
  rcases q1 with ⟨a, xs, ex, hx, q⟩ | ⟨a, xs, ex, hx, q⟩
  · subst ex
    cases r1
    obtain ⟨its, r, ht, hz⟩ := I5.tuple hx
    have hl := r.length
    refine tail_any (ops := [.ref a, .ref s4.heap.objs.size]) ht.typeIs slot_tuple_getitem.lookup ?_ (by with_unfolding_all rfl)
    cases pl
    cases pu
    cases ps with
    | int _ tk =>
      refine tuple_rev_item ht (Heap.IsSliceOf.new ..) (by omega) ?_
      exact ⟨.ref _, _, I5.laid (t' := s4.toks) (o := .tup xs.reverse) (fun b ob q => Heap.get?_push_of_some _ q) (Nat.le_refl _) ⟨by rw [List.length_reverse]; exact hz, _, r.reverse, IsTup.new _ _⟩, rfl, q _ (I5.hok.fresh (Nat.le_refl _))⟩
  · subst ex
    cases r1
    obtain ⟨its, r, ht, hz⟩ := I5.list hx
    have hl := r.length
    refine tail_any (ops := [.ref a, .ref s4.heap.objs.size]) ht.isList.typeIs (PySem.slot_list_getitem.lookup) ?_ (by with_unfolding_all rfl)
    refine wpAny_getItem_list_slice ht.isList (Heap.IsSliceOf.new _ vl vu vs) pl pu ps (by decide) ?_ (by rw [List.size_toArray]; omega)
    rw [PySem.W.krv_pick]
    exact ⟨.ref _, _, I5.laid (t' := s4.toks) (o := .lst xs.reverse) (fun b ob q => Heap.get?_push_of_some _ q) (Nat.le_refl _) ⟨by rw [List.length_reverse]; exact hz, _, 0, r.reverse, Heap.get?_push_size _ rfl⟩, rfl, q _ (I5.hok.fresh (Nat.le_refl _))⟩
theorem qe_rev {j : Nat} {p1 q1 p3 : Pos} (he : QE X B W e te) : QE X B W (.Subscript e (.Slice none none (some (.UnaryOp .USub (.Constant (.int 1) j p1) q1)) p3) pos) (aRev te) :=
  pe_imp (pe_revB he) fun s H R ⟨G, σ, M, Q, E, ss, h, k, kx⟩ => ⟨G, σ, M, _, E, ss, h, fun v H1 ⟨x, M1, G1, e1, m1, r1, q⟩ => by
    dsimp only at q
    split at q
    · obtain ⟨a, vs, rfl, p, t⟩ := rp_tup r1
      exact .inl ⟨a, vs, rfl, same_sqt m1.same p, fun p hp => Kv.tup m1 (fun v H' kv => k v H' (kv.lift e1)) t.reverse hp q⟩
    · obtain ⟨xs, h1, h2⟩ := q
      refine lsAt m1 r1 h1 fun a vs e p t => ?_
      exact .inr ⟨a, vs, e, p, fun p hp => Kv.lst m1 (fun v H' kv => k v H' (kv.lift e1)) t.reverse hp h2⟩, kx⟩
end

/-! ### freezing -/
mutual
/-- d, its lists among fs frozen, is d' -/
inductive Fz (M : Mem) (fs : List Addr) : D → D → Prop
  | same (d : D) : Fz M fs d d
  | tup {xs ys : List D} : FzA M fs xs ys → Fz M fs (.tup xs) (.tup ys)
  | lst {p : Addr} {xs ys : List D} : p ∈ fs → M p = some (.lst xs) → FzA M fs xs ys → Fz M fs (.ref p) (.lst ys)
inductive FzA (M : Mem) (fs : List Addr) : List D → List D → Prop
  | nil : FzA M fs [] []
  | cons {d d' : D} {xs ys : List D} : Fz M fs d d' → FzA M fs xs ys → FzA M fs (d :: xs) (d' :: ys)
end
theorem FzA.same {M : Mem} {fs : List Addr} : ∀ xs : List D, FzA M fs xs xs
  | [] => .nil
  | x :: r => .cons (.same x) (FzA.same r)
section
variable {K : PySem.W.Frag} {G G2 H : Hp} {M M2 : Mem} {fs : List Addr}
mutual
theorem Fz.rp (m : SM K G M H) (e : Same G G2) (hf : ∀ p ∈ fs, G2 p = H p) : ∀ {d d' : D} {v : V}, Fz M fs d d' → Rp K G d v → Rp K G2 d' v
  | _, _, _, .same d, r => r.up e
  | _, _, _, .tup t, .tup h k => .tup (h.up e) (FzA.rp m e hf t k)
  | _, _, _, .lst hp h t, r => by
    cases r
    obtain ⟨vs, k, eH⟩ := cellL m h
    exact .lst ((hf _ hp).trans eH) (FzA.rp m e hf t k)
theorem FzA.rp (m : SM K G M H) (e : Same G G2) (hf : ∀ p ∈ fs, G2 p = H p) : ∀ {d d' : List D} {v : List V}, FzA M fs d d' → RpA K G d v → RpA K G2 d' v
  | _, _, _, .nil, r => by cases r; exact .nil
  | _, _, _, .cons a b, r => by cases r with | cons r1 r2 => exact .cons (Fz.rp m e hf a r1) (FzA.rp m e hf b r2)
end
open Classical in
theorem SM.freeze (m : SM K G M H) (hl : MLe M2 M) (hn : ∀ p ∈ fs, M2 p = none) : ∃ G2, Same G G2 ∧ SM K G2 M2 H ∧ ∀ p ∈ fs, G2 p = H p := by
  refine ⟨fun b => if b ∈ fs then H b else G b, fun b u e => ?_, ⟨fun b u e => ?_, fun a c e => ?_⟩, fun p hp => if_pos hp⟩
  · show (if b ∈ fs then H b else G b) = some u
    by_cases h : b ∈ fs
    · rw [if_pos h]; exact m.same _ _ e
    · rw [if_neg h]; exact e
  · have e' : (if b ∈ fs then H b else G b) = some u := e
    by_cases h : b ∈ fs
    · rw [if_pos h] at e'; exact e'
    · rw [if_neg h] at e'; exact m.same _ _ e'
  · have ha : a ∉ fs := fun z => by rw [hn a z] at e; cases e
    obtain ⟨h1, h2⟩ := m.cell a c (hl a c e)
    refine ⟨(if_neg ha).trans h1, h2.up (fun b u e => ?_) rfl⟩
    show (if b ∈ fs then H b else G b) = some u
    by_cases h : b ∈ fs
    · rw [if_pos h]; exact m.same _ _ e
    · rw [if_neg h]; exact e
/-- d in M' may be told as d' in M -/
def Gh (M : Mem) (d : D) (M' : Mem) (d' : D) : Prop := ∃ fs, Fz M' fs d d' ∧ MLe M M' ∧ ∀ p ∈ fs, M p = none
theorem Gh.refl (M : Mem) (d : D) : Gh M d M d := ⟨[], .same d, .refl M, fun _ h => nomatch h⟩
theorem Gh.drop {M M' : Mem} (h : MLe M M') (d : D) : Gh M d M' d := ⟨[], .same d, h, fun _ h => nomatch h⟩
theorem Gh.lst {M M' : Mem} {p : Addr} {xs : List D} (h : MLe M M') (hp : M p = none) (e : M' p = some (.lst xs)) : Gh M (.ref p) M' (.lst xs) :=
  ⟨[p], .lst (by simp) e (FzA.same xs), h, fun q hq => by rw [List.mem_singleton] at hq; subst hq; exact hp⟩
theorem Kv.gh {Q : DK} {v : V} (h : Kv K G (fun d M' => ∃ d' M2, Gh M2 d M' d' ∧ Q d' M2) v H) : Kv K G Q v H := by
  obtain ⟨d, M', G', e, m, r, d', M2, ⟨fs, fz, hl, hn⟩, q⟩ := h
  obtain ⟨G2, e2, m2, hf⟩ := m.freeze hl hn
  exact ⟨d', M2, G2, e.trans e2, m2, fz.rp m e2 hf r, q⟩
end
section
variable {X : Cx} {B : Hp} {W : WX} {e : Expr} {te : AE} {tt : AT} {pos : Pos}
/-- an expression that leaves the memory as it was, its value told frozen -/
@[simp] def aFz (te : AE) : AE := fun σ M Q E => te σ M (fun d M' => ∃ d', Gh M d M' d' ∧ Q d' M) E
theorem qe_fz (h : QE X B W e te) : QE X B W e (aFz te) := pe_imp h fun s H R ⟨G, σ, M, Q, E, ss, h, k, kx⟩ => ⟨G, σ, M, _, E, ss, h, fun v H1 kv => k v H1 (by
  obtain ⟨d, M', G', e, m, r, d', hg, q⟩ := kv
  exact Kv.gh ⟨d, M', G', e, m, r, d', M, hg, q⟩), kx⟩
@[simp] def aFzT (tt : AT) : AT := fun σ M Q E => tt σ M (fun b M' => MLe M M' ∧ Q b M) E
theorem qt_fz (h : QT X B W e tt) : QT X B W e (aFzT tt) := pt_imp h fun s H R ⟨G, σ, M, Q, E, ss, h, k, kx⟩ => ⟨G, σ, M, _, E, ss, h, fun b H1 M1 G1 e m ⟨l, q⟩ => k b H1 M G1 e (m.drop l) q, kx⟩
end
end HA
/-! A11: frozen displays, sums, slices, comprehensions; a def's exits; drawn deals. -/
namespace HA
open PySem PySem.Spec L2
section
variable {K : PySem.W.Frag} {G H : Hp} {M : Mem}
/-- a new list that nothing changes -/
theorem Kv.lstF {Q : DK} {R : VK} {p : Addr} {xs : List D} {vs : List V} (m : SM K G M H) (k : ∀ v H', Kv K G Q v H' → R v H') (r : RpA K G xs vs) (hp : H p = none) (q : Q (.lst xs) M) : R (.ref p) (upd H p (.lst vs)) := by
  have g0 := (m.free hp).1
  exact k _ _ ⟨.lst xs, M, _, same_upd g0, m.frozen hp, .lst upd_same (r.up (same_upd g0)), q⟩
end
section
variable {X : Cx} {B : Hp} {W : WX} {a b c e o i tg : Expr} {es rest : List Expr} {ta tb tc te : AE} {tt tu : AT} {tas : AA} {ti : AI} {tl th : AO} {lo hi : Option Expr} {pos p2 p : Pos}
@[simp] def aLstF (t : AA) : AE := fun σ M Q E => t σ M (fun xs M1 => xs.length ≤ sizeLine ∧ Q (.lst xs) M1) E
theorem qe_lstF (h : QA X B W es tas) : QE X B W (.List es pos) (aLstF tas) :=
  pe_imp (pe_lst h) fun s H R ⟨G, σ, M, Q, E, ss, h, k, kx⟩ => ⟨G, σ, M, _, E, ss, h, fun vs H1 ds M1 G1 e m r q => ⟨by rw [← r.len]; exact q.1, fun p hp => Kv.lstF m (fun v H' kv => k v H' (kv.lift e)) r hp q.2⟩, kx⟩
/-- +, a sum of lists frozen -/
@[simp] def bAddF : A2 := fun x y M Q => match x, y with
  | .int i, .int j => Q (.int (i + j)) M
  | .str i, .str j => i.length + j.length ≤ sizeLine ∧ Q (.str (i ++ j)) M
  | .tup xs, .tup ys => xs.length + ys.length ≤ sizeLine ∧ Q (.tup (xs ++ ys)) M
  | x, y => ∃ xs ys, LstAt M x xs ∧ LstAt M y ys ∧ xs.length + ys.length ≤ sizeLine ∧ Q (.lst (xs ++ ys)) M
theorem bAddF_ok {K : PySem.W.Frag} : OkR K bAddF (rAddA K) := fun G M H x y xv yv Q R m rx ry h k => by
  unfold bAddF at h
  split at h
  · cases rx; cases ry
    exact .inl (.inl ⟨_, _, rfl, rfl, k _ _ (.here m (.int _) h)⟩)
  · cases rx; cases ry
    exact .inl (.inr ⟨_, _, rfl, rfl, h.1, k _ _ (.here m (.str _) h.2)⟩)
  · exact bAdd_ok G M H _ _ xv yv Q R m rx ry h k
  · obtain ⟨xs, ys, h1, h2, hz, q⟩ := h
    refine lstAt m rx h1 fun a vs e1 p1 r1 => lstAt m ry h2 fun b ws e2 p2 r2 => ?_
    exact .inr (.inr ⟨a, b, vs, ws, e1, e2, p1, p2, by rw [← r1.len, ← r2.len]; exact hz, fun p hp => Kv.lstF m k (r1.app r2) hp q⟩)
theorem qe_addF (ha : QE X B W a ta) (hb : QE X B W b tb) : QE X B W (.BinOp a .Add b pos) (aOp bAddF ta tb) := qe_op op_addA bAddF_ok ha hb
@[simp] def sSlF (x : D) (lo hi : Option Int) (M : Mem) (Q : DK) : Prop := match x with
  | .tup xs => Q (.tup (cut xs lo hi)) M
  | .str z => z.length ≤ sizeLine ∧ Q (.str (cutS z lo hi)) M
  | x => ∃ xs, LsAt M x xs ∧ Q (.lst (cut xs lo hi)) M
@[simp] def aSlF (te : AE) (tl th : AO) : AE := fun σ M Q E => te σ M (fun x M1 => tl σ M1 (fun l M2 => th σ M2 (fun u M3 => sSlF x l u M3 Q) E) E) E
theorem sSlF_ok {K : PySem.W.Frag} {G H : Hp} {M : Mem} {x : D} {v : V} {l h : Option Int} {Q : DK} {R : VK} (m : SM K G M H) (r : Rp K G x v) (q : sSlF x l h M Q) (k : ∀ v H', Kv K G Q v H' → R v H') : rSlAll K v l h H R := by
  unfold sSlF at q
  split at q
  · exact sSl_ok (x := .tup _) m r q k
  · exact sSl_ok (x := .str _) m r q k
  · obtain ⟨xs, h1, h2⟩ := q
    refine lsAt m r h1 fun a vs e p t => ?_
    exact .inr ⟨a, vs, e, p, fun p hp => Kv.lstF m k (cut_rp t l h) hp h2⟩
theorem qe_sliceF (he : QE X B W e te) (hl : QO X B W lo tl) (hu : QO X B W hi th) : QE X B W (.Subscript e (.Slice lo hi none p2) pos) (aSlF te tl th) :=
  pe_imp (pe_slice sl_all he hl hu) fun s H R ⟨G, σ, M, Q, E, ss, h, k, kx⟩ => by
    refine ⟨G, σ, M, _, E, ss, h, fun v H1 ⟨x, M1, G1, e1, m1, r1, q1⟩ => ?_, kx⟩
    refine ⟨G1, σ, M1, _, E, ss.with e1 m1, q1, fun l H2 M2 G2 e2 m2 q2 => ?_, kx⟩
    refine ⟨G2, σ, M2, _, E, (ss.with e1 m1).with e2 m2, q2, fun u H3 M3 G3 e3 m3 q3 => ?_, kx⟩
    exact sSlF_ok m3 ((r1.up e2).up e3) q3 fun v H' kv => k v H' (kv.lift (e1.trans (e2.trans e3)))
@[simp] def aRevF (te : AE) : AE := fun σ M Q E => te σ M (fun x M1 => match x with
  | .tup xs => Q (.tup xs.reverse) M1
  | x => ∃ xs, LsAt M1 x xs ∧ Q (.lst xs.reverse) M1) E
theorem qe_revF {j : Nat} {p1 q1 p3 : Pos} (he : QE X B W e te) : QE X B W (.Subscript e (.Slice none none (some (.UnaryOp .USub (.Constant (.int 1) j p1) q1)) p3) pos) (aRevF te) :=
  pe_imp (pe_revB he) fun s H R ⟨G, σ, M, Q, E, ss, h, k, kx⟩ => ⟨G, σ, M, _, E, ss, h, fun v H1 ⟨x, M1, G1, e1, m1, r1, q⟩ => by
    dsimp only at q
    split at q
    · obtain ⟨a, vs, rfl, p, t⟩ := rp_tup r1
      exact .inl ⟨a, vs, rfl, same_sqt m1.same p, fun p hp => Kv.tup m1 (fun v H' kv => k v H' (kv.lift e1)) t.reverse hp q⟩
    · obtain ⟨xs, h1, h2⟩ := q
      refine lsAt m1 r1 h1 fun a vs e p t => ?_
      exact .inr ⟨a, vs, e, p, fun p hp => Kv.lstF m1 (fun v H' kv => k v H' (kv.lift e1)) t.reverse hp h2⟩, kx⟩
@[simp] def cListF : AC := fun xs M Q => match xs with
  | [.tup ys] => Q (.lst ys) M
  | [x] => ∃ ys, LsAt M x ys ∧ Q (.lst ys) M
  | _ => False
theorem ct_listF : CallT X "list" cListF := ⟨_, call_list_of, fun G M H xs vs Q R m r h k => by
  unfold cListF at h
  split at h
  · obtain ⟨v, rfl, rv⟩ := rpa1 r
    obtain ⟨a, ws, rfl, p, t⟩ := rp_tup rv
    exact ⟨a, ws, rfl, .inr (same_sqt m.same p), fun l hl => Kv.lstF m k t hl h⟩
  · obtain ⟨v, rfl, rv⟩ := rpa1 r
    obtain ⟨ys, h1, h2⟩ := h
    refine lsAt m rv h1 fun a ws e p t => ?_
    subst e
    exact ⟨a, ws, rfl, .inl p, fun l hl => Kv.lstF m k t hl h2⟩
  · exact h.elim⟩

/-! ### comprehensions, frozen -/
def aLcF (ti : AI) (g : AG) (tt : AT) (te : AE) (vs : List Nat) : AE := fun σ M Q E => ti σ M (fun xs st M1 => (∀ M', MLe M1 M' → st M') ∧ xs.length ≤ sizeLine ∧ ∃ R : Nat → List D → Prop, R 0 [] ∧
  (∀ i x acc M', xs[i]? = some x → acc.length ≤ i → R i acc → MLe M1 M' → g x (wipeA σ vs) M' (fun σ2 M2 => tt σ2 M2 (fun b M3 =>
    (b = true → te σ2 M3 (fun y M4 => M4 = M' ∧ R (i + 1) (acc ++ [y])) EF) ∧ (b = false → M3 = M' ∧ R (i + 1) acc)) EF) EF) ∧ ∀ acc, R xs.length acc → Q (.lst acc) M1) E
theorem lift_lcF {K : PySem.W.Frag} {g : AG} {vs ws : List Nat} (hv : ∀ j, j ∈ ws → j ∈ vs) {s : L2.St} {H : Hp} {R : VK} (h : LE K B W (aLcF ti g tt te vs) s H R) : tLc (LI K B W ti) (LG K B W0 ws g) (LT K B W0 tt) (LE K B W0 te) vs s H R := by
  obtain ⟨G, σ, M, Q, E, ss, h, k, kx⟩ := h
  refine ⟨G, σ, M, _, E, ss, h, fun J H1 xs stl M1 G1 e1 m1 ok q p hp => ?_, kx⟩
  obtain ⟨hst, hz, Rv, v0, turn, fin⟩ := q
  obtain ⟨g0, f0⟩ := m1.free hp
  have k0 : ∀ c d s' H', Wx K B EF c d s' H' → W0 c d s' H' := fun c d s' H' ⟨_, _, _, _, _, _, _, _, _, _, _, _, z⟩ => z
  refine ⟨fun i m H => m = xs.length - i ∧ i ≤ xs.length ∧ ∃ G' acc, acc.length ≤ i ∧ Same G1 G' ∧ SM K G' (mset M1 p (.lst acc)) H ∧ Rv i acc, ⟨xs.length, rfl, Nat.zero_le _, G1, [], Nat.le_refl _, Same.refl _, m1.new (c := .lst []) hp ⟨[], .nil, upd_same⟩, v0⟩, ?_⟩
  rintro i m H2 ⟨rfl, hi, G2, acc, la, e2, m2, v2⟩
  have hM : MLe M1 (mset M1 p (.lst acc)) := .new f0
  by_cases hlt : i < xs.length
  · obtain ⟨x, hx⟩ := get_lt hlt
    have q2 := turn i x acc _ hx la v2 hM
    refine .inr ⟨ok.go i G2 _ H2 hlt e2 m2 (hst _ hM), fun H3 => ∃ G' acc, acc.length ≤ i + 1 ∧ Same G1 G' ∧ SM K G' (mset M1 p (.lst acc)) H3 ∧ Rv (i + 1) acc, fun H3 ⟨G3, acc, la, e3, m3, v3⟩ => ⟨xs.length - (i + 1), by omega, rfl, hlt, G3, acc, la, e3, m3, v3⟩, fun y H3 hy => ?_⟩
    obtain ⟨d, G3, hd, e3, m3, r3⟩ := ok.yld i G2 _ H2 y H3 hlt e2 m2 (hst _ hM) hy
    rw [hx] at hd
    cases hd
    have e13 := e2.trans e3
    refine ⟨G3, wipeA σ vs, _, x, _, EF, (ss.with (e1.trans e13) m3).wipe vs, r3, q2, fun s4 H4 σ4 M4 G4 e4 ss4 kp q4 => ⟨?_, G4, σ4, M4, _, EF, ss4, q4, fun b H5 M5 G5 e5 m5 q5 => ?_, k0⟩, k0⟩
    · have w2 : L2.wipe (L2.wipe s vs) vs = L2.wipe s vs := wipe_cong (wipe_length _ _) fun j hj => wipe_get hj
      rw [← w2]
      refine wipe_cong kp.1 fun j hj => kp.2 j fun z => hj (hv j z)
    · have e45 := e4.trans e5
      cases b with
      | true =>
        refine iteT ⟨G5, σ4, M5, _, EF, ss4.with e5 m5, q5.1 rfl, fun yv H6 ⟨yd, M6, G6, e6, m6, r6, eM, v6⟩ => ?_, k0⟩
        subst eM
        obtain ⟨ws, t, eH⟩ := cellL m6 (p := p) (xs := acc) mset_same
        have mw := m6.write (a := p) (c := .lst (acc ++ [yd])) (c' := .lst acc) mset_same ⟨_, t.app (.cons r6 .nil), upd_same⟩
        rw [mset_mset] at mw
        exact ⟨ws, eH, by rw [← t.len]; omega, G6, acc ++ [yd], by simp; omega, e13.trans (e45.trans e6), mw, v6⟩
      | false =>
        obtain ⟨eM, v5⟩ := q5.2 rfl
        subst eM
        exact iteF ⟨G5, acc, by omega, e13.trans e45, m5, v5⟩
  · have : i = xs.length := by omega
    subst this
    refine .inl ⟨ok.stop _ G2 _ H2 (Nat.le_refl _) e2 m2 (hst _ hM), k _ _ ?_⟩
    refine Kv.gh ⟨.ref p, _, G2, e1.trans e2, m2, .ref p, .lst acc, M1, .lst hM f0 mset_same, fin acc v2⟩
theorem qe_lcF {elt iter : Expr} {ifs : List Expr} {scope : Scope} {own : List (Str × Nat)} {ws : List Nat} {g : AG} (hc : X.calm = true) (hN : X.N.Nodup) (hi : QI X B W tg iter ti) (ok : BlkOk X.N X.env.scope scope own) (hv : ∀ j, j ∈ ws → j ∈ own.map (·.2))
    (hg : Blk X scope fun Y => QG Y B W0 ws tg g) (ht : Blk X scope fun Y => QTs Y B W0 ifs tt) (he : Blk X scope fun Y => QE Y B W0 elt te) (hs : ∀ x, foldedSetIterable iter X.env x = pure x := by intro _; rfl) :
    QE X B W (.ListComp elt [⟨tg, iter, ifs, 0⟩] scope pos) (aLcF ti g tt te (own.map (·.2))) :=
  pe_imp (pe_lc hc hN hi ok hg ht he hs) fun s H R h => lift_lcF hv h
theorem qs_setLcF {elt iter : Expr} {ifs : List Expr} {scope : Scope} {own : List (Str × Nat)} {ws : List Nat} {g : AG} {y : Str} {py spos : Pos} (j : Nat) (hc : X.calm = true) (hN : X.N.Nodup) (hi : QI X B W tg iter ti) (ok : BlkOk X.N X.env.scope scope own) (hv : ∀ j, j ∈ ws → j ∈ own.map (·.2))
    (hg : Blk X scope fun Y => QG Y B W0 ws tg g) (ht : Blk X scope fun Y => QTs Y B W0 ifs tt) (he : Blk X scope fun Y => QE Y B W0 elt te) (hy : X.N[j]? = some y := by rfl) (hyl : X.env.scope.names.lookup y = some .local := by rfl)
    (hsw : swapsWith (.ListComp elt [⟨tg, iter, ifs, 0⟩] scope pos) (some (.Name y py)) spos.line X.env = pure true := by exact sw_true rfl rfl rfl (by decide +kernel)) (hs : ∀ x, foldedSetIterable iter X.env x = pure x := by intro _; rfl) :
    QS X B W (.Assign [.Name y py] (.ListComp elt [⟨tg, iter, ifs, 0⟩] scope pos) spos) (aAsg (aLcF ti g tt te (own.map (·.2))) (agName j)) :=
  ps_imp (ps_setLc hc hN hy hyl hsw hi ok hg ht he hs) fun Dc s H ⟨G, σ, M, D, ss, h, kn, kr, kb, kc, kx⟩ =>
    lift_lcF hv ⟨G, σ, M, _, D.xx, ss, h, fun v H1 ⟨x, M1, G1, e1, m1, r1, q1⟩ => kn _ H1 _ M1 G1 e1 ((ss.with e1 m1).set j r1) q1, kx⟩
end

/-! ### a def's exits -/
/-- d, told where the memory is M again -/
@[simp] def fzD (M M' : Mem) (d : D) (k : D → Prop) : Prop := match d with
  | .ref p => ∃ xs, M p = none ∧ MLe M M' ∧ M' p = some (.lst xs) ∧ k (.lst xs)
  | d => MLe M M' ∧ k d
theorem fzD_gh {M M' : Mem} {d : D} {Q : DK} (h : fzD M M' d fun d' => Q d' M) : ∃ d' M2, Gh M2 d M' d' ∧ Q d' M2 := by
  unfold fzD at h
  split at h
  · obtain ⟨xs, h1, h2, h3, h4⟩ := h
    exact ⟨_, M, .lst h2 h1 h3, h4⟩
  · exact ⟨_, M, .drop h.1 _, h.2⟩
section
variable {P : Program} {w : World} {K : PySem.W.Frag} {mg : Str → Option Value} {base : Heap} {k : Nat} {f : Addr} {fd : FuncData} {ps : List Str} {sp sp' : ASp}
/-- another promise, by what lies there at the entry -/
theorem FA.imp2 (F : FA P w K mg base k f fd ps sp) (h : ∀ G H ds M Q E, SM K G M H → sp' ds M Q E → ∃ M1 Q1 E1, SM K G M1 H ∧ sp ds M1 Q1 E1 ∧ (∀ v H', Kv K G Q1 v H' → Kv K G Q v H') ∧ ∀ c d H', Kx K G E1 c d H' → Kx K G E c d H')
    (hl : ∀ ds M Q E, sp' ds M Q E → ds.length = ps.length) : FA P w K mg base k f fd ps sp' :=
  ⟨hl, fun A outer s H args us vs ds G M Q E hr hg he hb hv m r q => by
    obtain ⟨M1, Q1, E1, m1, q1, kq, kx⟩ := h G H ds M Q E m q
    refine codeAny_mono (F.run A outer s H args us vs ds G M1 Q1 E1 hr hg he hb hv m1 r q1) fun z s' hz => ?_
    cases z with
    | error e =>
      obtain ⟨H', a1, a2, a3, a4, cls, d, b1, b2, b3, b4, b5, b6⟩ := hz
      exact ⟨H', a1, a2, a3, a4, cls, d, b1, b2, b3, b4, b5, kx _ _ _ b6⟩
    | ok fl =>
      cases fl with
      | ret u => obtain ⟨v, H', os, bare, un, ok', r', q⟩ := hz; exact ⟨v, H', os, bare, un, ok', r', kq _ _ q⟩
      | next => exact hz
      | brk => exact hz
      | cont => exact hz⟩
end
end HA
/-! A12: defs that leave the memory as it was; drawn deals; loops over ranges and lists. -/
namespace HA
open PySem PySem.Spec L2
section
variable {P : Program} {w : World} {K : PySem.W.Frag} {mg : Str → Option Value} {base : Heap} {x qual : Str} {st : Stmt} {f : Addr} {fd : FuncData} {N ps : List Str} {k : Nat} {sp sp' : ASp} {t : ASt}
theorem Kx.drop {G H : Hp} {M : Mem} {E : AX} {c : Value} {d : Option Addr} (h : Kx K G (fun C fs M' => ∃ M2, MLe M2 M' ∧ E C fs M2) c d H) : Kx K G E c d H := by
  obtain ⟨C, fs, a, vs, M', G', e1, e2, e3, m, h1, h2, M2, hl, q⟩ := h
  exact ⟨C, fs, a, vs, M2, G', e1, e2, e3, m.drop hl, h1, h2, q⟩
/-- the derivation of a def's body, in its context -/
def DefD (P : Program) (w : World) (K : PySem.W.Frag) (mg : Str → Option Value) (base : Heap) (N : List Str) (qual : Str) (st : Stmt) (f : Addr) (k : Nat) (t : ASt) : Prop :=
  ∀ cdv A outer s H E B W, Room k (BX P w K mg base N qual st f cdv A outer s H E).A → (BX P w K mg base N qual st f cdv A outer s H E).A.guards = some [] → Takes (BX P w K mg base N qual st f cdv A outer s H E) W → PassesOwn (model P w) (BX P w K mg base N qual st f cdv A outer s H E).A (BX P w K mg base N qual st f cdv A outer s H E).env (BX P w K mg base N qual st f cdv A outer s H E).xe → QSs (BX P w K mg base N qual st f cdv A outer s H E) B W (defBody st) t
/-- what is wanted at the exits of a def that leaves the memory as it was -/
def pureE (M : Mem) (Q : DK) (E : AX) : AEn := { nx := fun _ M' => MLe M M' ∧ Q .non M, rt := fun d M' => fzD M M' d fun d' => Q d' M, xx := fun _ C fs M' => MLe M M' ∧ E C fs M }
/-- .. of any def -/
def anyE (Q : DK) (E : AX) : AEn := { nx := fun _ M' => ∃ M2, MLe M2 M' ∧ Q .non M2, rt := fun d M' => ∃ M2, MLe M2 M' ∧ Q d M2, xx := fun _ C fs M' => ∃ M2, MLe M2 M' ∧ E C fs M2 }
/-- a def's promise by its body: the exits weakened -/
theorem fa_gh (F : Fun K x qual st f fd) (S : FnScope N ps (defScope st)) (len : ∀ ds M Q E, sp ds M Q E → ds.length = ps.length) (hb : DefD P w K mg base N qual st f k t)
    (h : ∀ ds M Q E, sp ds M Q E → ∃ D : AEn, t D (startA N ds) M ∧ (∀ σ M', D.nx σ M' → ∃ d' M2, Gh M2 .non M' d' ∧ Q d' M2) ∧ (∀ d M', D.rt d M' → ∃ d' M2, Gh M2 d M' d' ∧ Q d' M2) ∧ (∀ σ M', ¬ D.bk σ M') ∧ (∀ σ M', ¬ D.ct σ M') ∧ ∀ σ C fs M', D.xx σ C fs M' → ∃ M2, MLe M2 M' ∧ E C fs M2) : FA P w K mg base (k + 1) f fd ps sp := by
  obtain ⟨oc, od, kV, doc, pm, an, cdv, ct, osl, rfl, lk, hcd⟩ := F.ex
  refine ⟨len, fun A outer s H args us vs ds G M Q E hr hg e0 hbd r m rp hs => ?_⟩
  have hl : vs.length = ps.length := by rw [← rp.len]; exact len _ _ _ _ hs
  have inK : K.In s.heap := e0.mod.kin.keeps fun b o z => (e0.bs b o z).1
  have nol : s.heap.NoLimit := e0.mod.nolimit.keeps fun b o z => (e0.bs b o z).1
  have kinds : ∀ y ∈ ps.zip us, (defScope st).names.lookup y.1 = some .local ∨ ((defScope st).names.lookup y.1 = some .cell ∧ ((cellsFrom (s.heap.objs.size + 1) (defScope st).names []).lookup y.1).isSome = true) := by
    rintro ⟨y, v⟩ hy
    exact (S.par y (List.of_mem_zip hy).1).imp id fun z => ⟨z, PySem.W.cellsFrom_some _ _ _ (.inl z)⟩
  refine codeAny_call_function hr.depth (inK _ _ lk) rfl S.co S.gen rfl (PySem.W.codeRec_of inK hcd) (hbd _ _ _ _ (wpAny_newFunctionEnv_cells S.kind kinds fun env ee s1 xx => ?_))
  subst ee
  refine ⟨nol.keeps xx.toInCall.keep, codeAny_func ?_⟩
  have I := inv_start (CX := L2.CX P w) (P := P) (w := w) (K := K) (mg := mg) (base := base) (cd := cdv) (E := Kx K G E) S hr.hd e0 hl r xx
  have tk := takes_of (X := BX P w K mg base N qual st f cdv A outer s H (Kx K G E)) (E := Kx K G E) rfl rfl rfl rfl
  have qb := hb cdv A outer s H (Kx K G E) G _ (hr.deeper _) hg tk (passes_of rfl)
  have e0l : (startA N ds).length = (L2.start N vs).length := by simp [startA, L2.start, rp.len]
  have ss : SS K G G (startA N ds) M (L2.start N vs) H := ⟨Same.refl G, m, e0l, fun i d hd => by
    unfold startA at hd
    unfold L2.start
    by_cases hi : i < ds.length
    · rw [List.getElem?_append_left (by simpa using hi), List.getElem?_map] at hd
      cases z : ds[i]? with
      | none => rw [z] at hd; cases hd
      | some y =>
        rw [z] at hd
        cases hd
        obtain ⟨v, h1, h2⟩ := rp.get z
        exact ⟨v, by rw [List.getElem?_append_left (by simp; rw [← rp.len]; exact hi), List.getElem?_map, h1]; rfl, h2⟩
    · rw [List.getElem?_append_right (by simpa using hi), List.getElem?_replicate] at hd
      split at hd <;> cases hd⟩
  have fin : ∀ {σ' : L2.St} {H' : Hp} {s' : Shared} {v : V} {u : Value}, Inv (BX P w K mg base N qual st f cdv A outer s H (Kx K G E)) [] σ' H' s' → RelV v u → Kv K G Q v H' → CE outer P w H s (Kv K G Q) u s' := fun J rv q => ⟨_, _, J.os, J.bare, J.base, J.hok, rv, q⟩
  obtain ⟨D, hD, kn, kr, kb, kc, kx⟩ := h ds M Q E hs
  refine wpAny_mono (qb.run [] s1 (L2.start N vs) H { nx := fun _ H' => Kv K G Q .non H', rt := Kv K G Q } I ⟨G, _, M, D, ss, hD, fun s' H' σ' M' G' e' ss' q => Kv.gh ⟨.non, M', G', e', ss'.mem, .non, kn σ' M' q⟩, fun v H' ⟨d, M', G', e, m, r, q⟩ => Kv.gh ⟨d, M', G', e, m, r, kr d M' q⟩, fun _ _ σ' M' _ _ _ z => kb σ' M' z, fun _ _ σ' M' _ _ _ z => kc σ' M' z, fun c d s' H' ⟨C, fs, a, vs, σ, M', G', e1, e2, s5, h1, h2, q⟩ => Kx.drop (M := M') ⟨C, fs, a, vs, M', G', e1, e2, s5.base, s5.mem, h1, h2, kx σ C fs M' q⟩⟩)
    (fun fl s' hs' => ?_) fun e s' hs' => hs'
  cases fl with
  | ret u => obtain ⟨v, σ', H', J, rv, q⟩ := hs'; exact fin J rv q
  | next => obtain ⟨σ', H', J, q⟩ := hs'; exact fin (v := .non) (u := .none) J rfl q
  | brk => obtain ⟨_, _, _, z⟩ := hs'; exact z.elim
  | cont => obtain ⟨_, _, _, z⟩ := hs'; exact z.elim

theorem fa_pure (F : Fun K x qual st f fd) (S : FnScope N ps (defScope st)) (len : ∀ ds M Q E, sp ds M Q E → ds.length = ps.length) (hb : DefD P w K mg base N qual st f k t)
    (h : ∀ ds M Q E, sp ds M Q E → t (pureE M Q E) (startA N ds) M) : FA P w K mg base (k + 1) f fd ps sp :=
  fa_gh F S len hb fun ds M Q E q => ⟨_, h ds M Q E q, fun σ M' z => ⟨_, M, .drop z.1 _, z.2⟩, fun d M' z => fzD_gh z, fun _ _ z => z, fun _ _ z => z, fun σ C fs M' z => ⟨M, z⟩⟩
theorem fa_any (F : Fun K x qual st f fd) (S : FnScope N ps (defScope st)) (len : ∀ ds M Q E, sp ds M Q E → ds.length = ps.length) (hb : DefD P w K mg base N qual st f k t)
    (h : ∀ ds M Q E, sp ds M Q E → t (anyE Q E) (startA N ds) M) : FA P w K mg base (k + 1) f fd ps sp :=
  fa_gh F S len hb fun ds M Q E q => ⟨_, h ds M Q E q, fun σ M' ⟨M2, l, z⟩ => ⟨_, M2, .drop l _, z⟩, fun d M' ⟨M2, l, z⟩ => ⟨_, M2, .drop l _, z⟩, fun _ _ z => z, fun _ _ z => z, fun σ C fs M' z => z⟩

/-! ### drawn deals -/
/-- numbers of a pool -/
def PoolOk (ns : List Int) : Prop := ns.length ≤ 63 ∧ ∀ n ∈ ns, 0 ≤ n ∧ n.natAbs < 2 ^ big
/-- the deal a and its pool l, opened -/
def opn (M : Mem) (a l : Addr) (n : Int) (ns : List Int) : Mem := mset (mset M a (.lst [.ref l, .int n])) l (.lst (ns.map D.int))
def spAnyT : ASp := fun ds M Q _ => ∃ a l n m ns, ds = [.ref a, .int m] ∧ a ≠ l ∧ M a = some (.lst [.ref l, .int n]) ∧ M l = some (.lst (ns.map D.int)) ∧ PoolOk ns ∧ (0 ≤ n ∧ n < 2147483647) ∧ (0 < m ∧ m.natAbs < 2 ^ 9000) ∧
  ∀ r n' ns' M', 0 ≤ r → r < m → PoolOk ns' → 0 ≤ n' → n' < 2147483647 → MLe (opn M a l n' ns') M' → Q (.int r) M'
/-- a deal -/
def Deal (M : Mem) (x : D) : Prop := match x with
  | .ref a => ∃ l, a ≠ l ∧ M a = some (.deal l) ∧ M l = some .pool
  | _ => False
theorem Deal.up {M M' : Mem} {x : D} (h : Deal M x) (e : MLe M M') : Deal M' x := by
  match x, h with
  | .ref a, ⟨l, h0, h1, h2⟩ => exact ⟨l, h0, e _ _ h1, e _ _ h2⟩
def spAny : ASp := fun ds M Q _ => ∃ x m, ds = [x, .int m] ∧ Deal M x ∧ (0 < m ∧ m.natAbs < 2 ^ 9000) ∧ ∀ r, 0 ≤ r → r < m → Q (.int r) M
theorem SM.retype {K : PySem.W.Frag} {G H : Hp} {M : Mem} {a : Addr} {c c' : Cell} (m : SM K G M H) (h : M a = some c') (k : COk K G H a c) : SM K G (mset M a c) H := ⟨m.same, fun b d e => by
  by_cases hb : b = a
  · subst hb; rw [mset_same] at e; cases e; exact ⟨(m.cell _ _ h).1, k⟩
  · rw [mset_ne hb] at e; exact m.cell b d e⟩
theorem SM.opened {K : PySem.W.Frag} {G H : Hp} {M : Mem} {a l : Addr} (m : SM K G M H) (hal : a ≠ l) (ha : M a = some (.deal l)) (hl : M l = some .pool) : ∃ n ns, (0 ≤ n ∧ n < 2147483647) ∧ PoolOk ns ∧ SM K G (opn M a l n ns) H := by
  obtain ⟨_, n, hn, ea⟩ := m.cell a _ ha
  obtain ⟨_, ns, h1, h2, el⟩ := m.cell l _ hl
  have m1 := m.retype (c := .lst [.ref l, .int n]) ha ⟨_, .cons (.ref l) (.cons (.int n) .nil), ea⟩
  have hl' : mset M a (.lst [.ref l, .int n]) l = some .pool := by rw [mset_ne (Ne.symm hal)]; exact hl
  exact ⟨n, ns, hn, ⟨h1, h2⟩, m1.retype (c := .lst (ns.map D.int)) hl' ⟨_, .ints ns, el⟩⟩
theorem SM.shut {K : PySem.W.Frag} {G H : Hp} {M M' : Mem} {a l : Addr} {n : Int} {ns : List Int} (hal : a ≠ l) (ha : M a = some (.deal l)) (hl : M l = some .pool) (hn : 0 ≤ n ∧ n < 2147483647) (hp : PoolOk ns) (m : SM K G M' H) (e : MLe (opn M a l n ns) M') : SM K G M H := ⟨m.same, fun b c hb => by
  have oa : opn M a l n ns a = some (.lst [.ref l, .int n]) := by unfold opn; rw [mset_ne hal, mset_same]
  have ol : opn M a l n ns l = some (.lst (ns.map D.int)) := by unfold opn; rw [mset_same]
  by_cases h1 : b = a
  · subst h1
    obtain ⟨g0, vs, r, eH⟩ := m.cell b _ (e _ _ oa)
    rw [ha] at hb
    cases hb
    obtain ⟨v, w, rfl, r1, r2⟩ := rpa2 r
    cases r1; cases r2
    exact ⟨g0, n, hn, eH⟩
  · by_cases h2 : b = l
    · subst h2
      obtain ⟨g0, vs, r, eH⟩ := m.cell b _ (e _ _ ol)
      rw [hl] at hb
      cases hb
      have := r.of_ints
      subst this
      exact ⟨g0, ns, hp.1, hp.2, eH⟩
    · refine m.cell b c (e _ _ ?_)
      unfold opn
      rw [mset_ne h2, mset_ne h1]; exact hb⟩
theorem fa_draw (F : FA P w K mg base k f fd ps spAnyT) : FA P w K mg base k f fd ps spAny := F.imp2 (fun G H ds M Q E m ⟨x, m', h1, h2, h3, h4⟩ => by
    subst h1
    match x, h2 with
    | .ref a, ⟨l, hal, ha, hl⟩ =>
      obtain ⟨n, ns, hn, hp, mo⟩ := m.opened hal ha hl
      refine ⟨_, fun v M' => ∃ r n' ns', v = .int r ∧ 0 ≤ r ∧ r < m' ∧ PoolOk ns' ∧ (0 ≤ n' ∧ n' < 2147483647) ∧ MLe (HA.opn M a l n' ns') M', E, mo, ⟨a, l, n, m', ns, rfl, hal, ?_, ?_, hp, hn, h3, fun r n' ns' M' h5 h6 h7 h8 h9 h10 => ⟨r, n', ns', rfl, h5, h6, h7, ⟨h8, h9⟩, ?_⟩⟩, fun v H' kv => ?_, fun _ _ _ z => z⟩
      · unfold HA.opn; rw [mset_ne hal, mset_same]
      · unfold HA.opn; rw [mset_same]
      · have : HA.opn (HA.opn M a l n ns) a l n' ns' = HA.opn M a l n' ns' := by
          unfold HA.opn
          rw [mset_comm (Ne.symm hal) (M := mset M a _), mset_mset, mset_mset]
        rwa [this] at h10
      · obtain ⟨d, M', G', e, m2, rp, r, n', ns', rfl, h5, h6, h7, h8, h9⟩ := kv
        exact ⟨.int r, M, G', e, SM.shut hal ha hl h8 h7 m2 h9, rp, h4 r h5 h6⟩) fun ds M Q E ⟨x, m', h1, h2, h3, h4⟩ => by
    match x, h2 with
    | .ref a, ⟨l, hal, ha, hl⟩ => exact F.len ds (HA.opn M a l 0 []) (fun _ _ => True) E ⟨a, l, 0, m', [], h1, hal, by unfold HA.opn; rw [mset_ne hal, mset_same], by unfold HA.opn; rw [mset_same], ⟨by simp, by simp⟩, ⟨by decide, by decide⟩, h3, fun _ _ _ _ _ _ _ _ _ _ => trivial⟩
/-- a deal is made of a script and a number -/
def spSrcT : ASp := fun ds M Q _ => ∃ (ns : List Int) (b : Int), ds = [.frz (ns.map D.int), .int b] ∧ ns.length ≤ 63 ∧ (∀ z ∈ ns, z.natAbs < 2 ^ big) ∧ (0 ≤ b ∧ b < 1000) ∧
  ∀ a l n ns' M', a ≠ l → M a = none → M l = none → MLe M M' → M' a = some (.lst [.ref l, .int n]) → M' l = some (.lst (ns'.map D.int)) → PoolOk ns' → 0 ≤ n → n < 2147483647 → Q (.ref a) M'
def spSrc : ASp := fun ds M Q _ => ∃ (ns : List Int) (b : Int), ds = [.frz (ns.map D.int), .int b] ∧ ns.length ≤ 63 ∧ (∀ z ∈ ns, z.natAbs < 2 ^ big) ∧ (0 ≤ b ∧ b < 1000) ∧
  ∀ a M', MLe M M' → M a = none → Deal M' (.ref a) → Q (.ref a) M'
theorem fa_src (F : FA P w K mg base k f fd ps spSrcT) : FA P w K mg base k f fd ps spSrc := F.imp2 (fun G H ds M Q E m ⟨ns, b, h1, h2, h3, h4, q⟩ => by
    refine ⟨M, fun v M' => ∃ a l n ns', v = .ref a ∧ a ≠ l ∧ M a = none ∧ M l = none ∧ MLe M M' ∧ M' a = some (.lst [.ref l, .int n]) ∧ M' l = some (.lst (ns'.map D.int)) ∧ PoolOk ns' ∧ 0 ≤ n ∧ n < 2147483647, E, m, ⟨ns, b, h1, h2, h3, h4, fun a l n ns' M' z1 z2 z3 z4 z5 z6 z7 z8 z9 => ⟨a, l, n, ns', rfl, z1, z2, z3, z4, z5, z6, z7, z8, z9⟩⟩, fun v H' kv => ?_, fun _ _ _ z => z⟩
    obtain ⟨d, M', G', e, m2, rp, a, l, n, ns', rfl, z1, z2, z3, z4, z5, z6, z7, z8, z9⟩ := kv
    obtain ⟨_, vs, r, eH⟩ := m2.cell a _ z5
    obtain ⟨v1, v2, rfl, r1, r2⟩ := rpa2 r
    cases r1; cases r2
    obtain ⟨_, ws, rw', eL⟩ := m2.cell l _ z6
    have := rw'.of_ints
    subst this
    have m3 := m2.retype (c := .deal l) z5 ⟨n, ⟨z8, z9⟩, eH⟩
    have z6' : mset M' a (.deal l) l = some (.lst (ns'.map D.int)) := by rw [mset_ne (Ne.symm z1)]; exact z6
    have m4 := m3.retype (c := .pool) z6' ⟨ns', z7.1, z7.2, eL⟩
    refine ⟨.ref a, _, G', e, m4, rp, q a _ (fun b c hb => ?_) z2 ⟨l, z1, by rw [mset_ne z1, mset_same], mset_same⟩⟩
    have n1 : b ≠ l := none_ne z3 hb
    have n2 : b ≠ a := none_ne z2 hb
    rw [mset_ne n1, mset_ne n2]; exact z4 _ _ hb) fun ds M Q E ⟨ns, b, h1, h2, h3, h4, q⟩ => F.len ds M (fun _ _ => True) E ⟨ns, b, h1, h2, h3, h4, fun _ _ _ _ _ _ _ _ _ _ _ _ _ _ => trivial⟩
/-- one of some things -/
def spOf : ASp := fun ds M Q _ => ∃ x y xs, ds = [x, y] ∧ Deal M x ∧ (y = .tup xs ∨ y = .lst xs ∨ ∃ a, y = .ref a ∧ M a = some (.lst xs)) ∧ xs ≠ [] ∧ xs.length < 1000000 ∧ ∀ d ∈ xs, Q d M
end
end HA
/-! A13: what may be shown and compared; small helps. -/
namespace HA
open PySem PySem.Spec L2
/-! ### shown -/
structure Sh (d : PyData) (n k : Nat) : Prop where
  sh : d.showable = true
  ln : d.shown.length ≤ n
  dp : d.depth ≤ k
  nd : d.hasDict = false
theorem Sh.ok {d : PyData} {n k : Nat} (h : Sh d n k) (hn : n ≤ 16777216) (hk : k ≤ 60) : ShowOk d := ⟨h.sh, Nat.le_trans h.ln (by rw [show sizeLine = 16777216 from by decide]; exact hn), Nat.le_trans h.dp hk, h.nd⟩
theorem Sh.mono {d : PyData} {n k n' k' : Nat} (h : Sh d n k) (hn : n ≤ n') (hk : k ≤ k') : Sh d n' k' := ⟨h.sh, Nat.le_trans h.ln hn, Nat.le_trans h.dp hk, h.nd⟩
theorem Sh.int {i : Int} (h : i.natAbs.log2 < 1920) : Sh (.int i) 1921 0 := ⟨by simpa [PyData.showable] using h, by
  have e := int_text_length_le (k := 1920) (by decide) h
  show (Str.ofString (toString i)).length ≤ 1921
  rw [ofString_length]; exact e, by simp [PyData.depth], rfl⟩
theorem log_small {i : Int} {b : Nat} (h : i.natAbs < 2 ^ b) (hb : b ≤ 1920) (h0 : 0 < b) : i.natAbs.log2 < 1920 := by
  refine Nat.lt_of_lt_of_le ?_ hb
  by_cases hz : i.natAbs = 0
  · rw [hz]; simpa using h0
  · exact (Nat.log2_lt hz).mpr h
theorem Sh.bl (b : Bool) : Sh (.bool b) 1921 0 := by
  cases b <;> exact ⟨rfl, by decide +kernel, by simp [PyData.depth], rfl⟩
theorem Sh.non : Sh .none 1921 0 := ⟨rfl, by decide +kernel, by simp [PyData.depth], rfl⟩
theorem Sh.str {x : Str} (h : (reprText x).length ≤ 1921) : Sh (.str x) 1921 0 := ⟨rfl, h, by simp [PyData.depth], rfl⟩
theorem sh_all {n k : Nat} : ∀ {xs : List PyData}, (∀ x ∈ xs, Sh x n k) → PyData.showableAll xs = true ∧ ((PyData.shownAll xs).map (·.length)).sum ≤ xs.length * n ∧ (PyData.shownAll xs).length = xs.length ∧ PyData.depthAll xs ≤ k ∧ PyData.hasDictAll xs = false
  | [], _ => ⟨rfl, by simp [PyData.shownAll], rfl, by simp [PyData.depthAll], rfl⟩
  | x :: r, h => by
    obtain ⟨a1, a2, a3, a4, a5⟩ := sh_all (xs := r) fun y hy => h y (List.mem_cons_of_mem _ hy)
    have hx := h x List.mem_cons_self
    refine ⟨by simp [PyData.showableAll, hx.sh, a1], ?_, by simp [PyData.shownAll, a3], ?_, by simp [PyData.hasDictAll, hx.nd, a5]⟩
    · have := hx.ln
      simp only [PyData.shownAll, List.map_cons, List.sum_cons, List.length_cons]
      rw [Nat.add_mul, Nat.one_mul]; omega
    · have := hx.dp
      simp only [PyData.depthAll]; omega
theorem Sh.lst {n k : Nat} {xs : List PyData} (h : ∀ x ∈ xs, Sh x n k) : Sh (.list xs) (xs.length * (n + 2) + 4) (k + 1) := by
  obtain ⟨a1, a2, a3, a4, a5⟩ := sh_all h
  refine ⟨by simpa [PyData.showable] using a1, ?_, by simp only [PyData.depth]; omega, by simpa [PyData.hasDict] using a5⟩
  have := listText_len_le (PyData.shownAll xs)
  simp only [PyData.shown]
  rw [Nat.mul_add]; omega
theorem piled_eq (ts : List Str) : piled ts = (ts.map (·.length)).sum + 2 * ts.length := by
  induction ts with
  | nil => rfl
  | cons t r ih => rw [piled_cons, ih]; simp only [List.map_cons, List.sum_cons, List.length_cons]; omega
theorem tupleText_len_le (ts : List Str) : (tupleText ts).length ≤ (ts.map (·.length)).sum + 2 * ts.length + 4 := by
  unfold tupleText
  rw [strLen_append, strLen_append]
  have e1 : ((("(" : String) : Str)).length = 1 := rfl
  have e3 : (((if ts.length == 1 then ",)" else ")" : String) : Str)).length ≤ 2 := by split <;> decide
  rw [e1]
  by_cases h : ts = []
  · subst h; have : (Str.join ", " ([] : List Str)).length = 0 := rfl; simp only [List.map_nil, List.sum_nil]; omega
  · have := join_length_add ts h
    rw [piled_eq] at this; omega
theorem Sh.tup {n k : Nat} {xs : List PyData} (h : ∀ x ∈ xs, Sh x n k) : Sh (.tuple xs) (xs.length * (n + 2) + 4) (k + 1) := by
  obtain ⟨a1, a2, a3, a4, a5⟩ := sh_all h
  refine ⟨by simpa [PyData.showable] using a1, ?_, by simp only [PyData.depth]; omega, by simpa [PyData.hasDict] using a5⟩
  have := tupleText_len_le (PyData.shownAll xs)
  simp only [PyData.shown]
  rw [Nat.mul_add]; omega
/-- ints below a bound -/
def SmallI (ns : List Int) : Prop := ∀ n ∈ ns, n.natAbs < 2 ^ 1920
theorem Sh.ints {ns : List Int} (h : SmallI ns) : ∀ x ∈ ns.map PyData.int, Sh x 1921 0 := fun x hx => by
  obtain ⟨n, hn, rfl⟩ := List.mem_map.mp hx
  exact .int (log_small (h n hn) (Nat.le_refl _) (by decide))
theorem show_tup {ns : List Int} (h : SmallI ns) (hl : ns.length ≤ 8000) : ShowOk (.tuple (ns.map .int)) := (Sh.tup (Sh.ints h)).ok (by rw [List.length_map]; omega) (by decide)
theorem show_lst {ns : List Int} (h : SmallI ns) (hl : ns.length ≤ 8000) : ShowOk (.list (ns.map .int)) := (Sh.lst (Sh.ints h)).ok (by rw [List.length_map]; omega) (by decide)
theorem show_int {i : Int} (h : i.natAbs < 2 ^ 1920) : ShowOk (.int i) := (Sh.int (log_small h (Nat.le_refl _) (by decide))).ok (by decide) (by decide)
/-! ### compared -/
mutual
theorem eqv_refl : ∀ d : PyData, d.hasDict = false → PyData.eqv d d = true
  | .none, _ => rfl
  | .bool b, _ => by simp [PyData.eqv]
  | .int i, _ => by simp [PyData.eqv]
  | .str x, _ => by simp [PyData.eqv]
  | .list xs, h => by simp only [PyData.eqv]; exact eqvAll_refl xs (by simpa [PyData.hasDict] using h)
  | .tuple xs, h => by simp only [PyData.eqv]; exact eqvAll_refl xs (by simpa [PyData.hasDict] using h)
  | .dict kvs, h => by simp [PyData.hasDict] at h
theorem eqvAll_refl : ∀ ds : List PyData, PyData.hasDictAll ds = false → PyData.eqvAll ds ds = true
  | [], _ => rfl
  | x :: r, h => by
    simp only [PyData.hasDictAll, Bool.or_eq_false_iff] at h
    simp only [PyData.eqvAll, eqv_refl x h.1, eqvAll_refl r h.2, Bool.and_self]
end
theorem eqv_ints : ∀ {xs ys : List Int}, PyData.eqvAll (xs.map .int) (ys.map .int) = decide (xs = ys)
  | [], [] => rfl
  | [], y :: ys => by simp [PyData.eqvAll]
  | x :: xs, [] => by simp [PyData.eqvAll]
  | x :: xs, y :: ys => by
    simp only [List.map_cons, PyData.eqvAll, PyData.eqv, eqv_ints (xs := xs) (ys := ys)]
    by_cases h : x = y <;> by_cases h2 : xs = ys <;> simp [h, h2]
theorem canLay_ints : ∀ ns : List Int, PyData.canLayAll0 (ns.map .int) = true
  | [] => rfl
  | n :: r => by simp [PyData.canLayAll0, PyData.canLay0, canLay_ints r]
theorem depth_ints : ∀ ns : List Int, PyData.depthAll (ns.map .int) = 0
  | [] => by simp [PyData.depthAll]
  | n :: r => by simp [PyData.depthAll, PyData.depth, depth_ints r]
theorem shaped_tup (ns : List Int) : SeqAt.shaped (.tuple (ns.map .int)) = true := by
  simp [SeqAt.shaped, PyData.canLay0, canLay_ints, PyData.depth, depth_ints]
theorem shaped_lst (ns : List Int) : SeqAt.shaped (.list (ns.map .int)) = true := by
  simp [SeqAt.shaped, PyData.canLay0, canLay_ints, PyData.depth, depth_ints]
/-! ### scalars compared, as simp sees them -/
section
variable {M : Mem} {Q : DK}
@[simp] theorem bEq_int {n : Bool} {i j : Int} : bEq n (.int i) (.int j) M Q = Q (.bl (n ^^ decide (i = j))) M := rfl
@[simp] theorem bEq_str {n : Bool} {i j : Str} : bEq n (.str i) (.str j) M Q = Q (.bl (n ^^ decide (i = j))) M := rfl
@[simp] theorem bEq_bl {n : Bool} {i j : Bool} : bEq n (.bl i) (.bl j) M Q = Q (.bl (n ^^ decide (i = j))) M := rfl
@[simp] theorem bEq_non {n : Bool} : bEq n .non .non M Q = Q (.bl (n ^^ true)) M := rfl
theorem bEq_tup {n : Bool} {xs ys : List Int} (h : Q (.bl (n ^^ decide (xs = ys))) M) : bEq n (.tup (xs.map .int)) (.tup (ys.map .int)) M Q :=
  ⟨_, _, .tup (.ints xs), .tup (.ints ys), shaped_tup xs, shaped_tup ys, by simp only [PyData.eqv]; rw [eqv_ints]; exact h⟩
/-- a list against a list, whatever both are -/
theorem bEq_lst {n : Bool} {x y : D} {xs ys : List Int} (hx : ∀ zs, x ≠ .tup zs) (hx1 : LsAt M x (xs.map .int)) (hy1 : LsAt M y (ys.map .int)) (h : Q (.bl (n ^^ decide (xs = ys))) M) : bEq n x y M Q := by
  have key : ∃ d e, DR M x d ∧ DR M y e ∧ SeqAt.shaped d = true ∧ SeqAt.shaped e = true ∧ Q (.bl (n ^^ PyData.eqv d e)) M := ⟨_, _, .lst hx1 (.ints xs), .lst hy1 (.ints ys), shaped_lst xs, shaped_lst ys, by simp only [PyData.eqv]; rw [eqv_ints]; exact h⟩
  match x, y, hx1 with
  | .lst _, _, _ => exact key
  | .frz _, _, _ => exact key
  | .ref _, _, _ => exact key
end
/-- repr of a tuple of ints, of an int -/
theorem cRepr_tup {M : Mem} {Q : DK} {ns : List Int} (h : SmallI ns) (hl : ns.length ≤ 8000) (q : Q (.str (PyData.tuple (ns.map .int)).shown) M) : cRepr [.tup (ns.map .int)] M Q := ⟨_, .tup (.ints ns), show_tup h hl, q⟩
theorem cRepr_int {M : Mem} {Q : DK} {i : Int} (h : i.natAbs < 2 ^ 1920) (q : Q (.str (PyData.int i).shown) M) : cRepr [.int i] M Q := ⟨_, .int i, show_int h, q⟩
theorem cRepr_of {M : Mem} {Q : DK} {x : D} {d : PyData} (h : DR M x d) (k : ShowOk d) (q : Q (.str d.shown) M) : cRepr [x] M Q := ⟨_, h, k, q⟩
end HA
/-! A14: helps for verification. -/
namespace HA
open PySem PySem.Spec L2
theorem split_at {α : Type} {xs : List α} {i : Nat} {x : α} (hx : xs[i]? = some x) : xs = xs.take i ++ x :: xs.drop (i + 1) ∧ xs.take (i + 1) = xs.take i ++ [x] := by
  obtain ⟨hi, e⟩ := List.getElem?_eq_some_iff.mp hx
  constructor
  · have : xs.drop i = x :: xs.drop (i + 1) := by rw [List.drop_eq_getElem_cons hi, e]
    rw [← this, List.take_append_drop]
  · rw [List.take_succ, hx]; rfl
section
variable {D' : AEn} {σ0 : AS} {M0 : Mem} {st : Mem → Prop} {g : AG} {tb : ASt}
/-- a loop by what was consumed -/
theorem for_fold {xs : List D} (S : List D → AS → Mem → Prop) (h0 : S [] σ0 M0)
    (turn : ∀ pre x rest, xs = pre ++ x :: rest → ∀ σ M, S pre σ M → st M ∧ g x σ M (fun σ2 M2 => tb { D' with nx := S (pre ++ [x]), ct := S (pre ++ [x]), bk := D'.nx } σ2 M2) D'.xx)
    (fin : ∀ σ M, S xs σ M → st M ∧ D'.nx σ M) :
    ∃ V : Nat → AS → Mem → Prop, V 0 σ0 M0 ∧ (∀ i x σ M, xs[i]? = some x → V i σ M → st M ∧ g x σ M (fun σ2 M2 => tb { D' with nx := V (i + 1), ct := V (i + 1), bk := D'.nx } σ2 M2) D'.xx) ∧ ∀ σ M, V xs.length σ M → st M ∧ D'.nx σ M := by
  refine ⟨fun i => S (xs.take i), by simpa using h0, fun i x σ M hx v => ?_, fun σ M v => fin σ M (by simpa using v)⟩
  obtain ⟨e1, e2⟩ := split_at hx
  have := turn (xs.take i) x (xs.drop (i + 1)) e1 σ M v
  simp only [e2]
  exact this
end
/-- a frozen comprehension by what was consumed -/
theorem lc_fold {xs : List D} {M1 : Mem} {Q : List D → Prop} {body : D → Mem → (List D → Prop) → List D → Prop} (R : List D → List D → Prop) (h0 : R [] [])
    (turn : ∀ pre x rest acc M', xs = pre ++ x :: rest → R pre acc → MLe M1 M' → body x M' (R (pre ++ [x])) acc) (fin : ∀ acc, R xs acc → Q acc) :
    ∃ R' : Nat → List D → Prop, R' 0 [] ∧ (∀ i x acc M', xs[i]? = some x → acc.length ≤ i → R' i acc → MLe M1 M' → body x M' (R' (i + 1)) acc) ∧ ∀ acc, R' xs.length acc → Q acc := by
  refine ⟨fun i => R (xs.take i), by simpa using h0, fun i x acc M' hx _ v hM => ?_, fun acc v => fin acc (by simpa using v)⟩
  obtain ⟨e1, e2⟩ := split_at hx
  have := turn (xs.take i) x (xs.drop (i + 1)) acc M' e1 v hM
  simp only [e2]
  exact this
@[simp] theorem MLe.refl' (M : Mem) : MLe M M ↔ True := iff_true_intro (.refl M)
/-- a list of images, split -/
theorem map_split {α : Type} {f : α → D} : ∀ {ns : List α} {pre rest : List D} {x : D}, ns.map f = pre ++ x :: rest → ∃ ps n rs, ns = ps ++ n :: rs ∧ pre = ps.map f ∧ x = f n ∧ rest = rs.map f
  | [], pre, rest, x, h => by cases pre <;> simp at h
  | n :: ns, [], rest, x, h => by
    simp only [List.map_cons, List.nil_append, List.cons.injEq] at h
    exact ⟨[], n, ns, rfl, rfl, h.1.symm, h.2.symm⟩
  | n :: ns, p :: pre, rest, x, h => by
    simp only [List.map_cons, List.cons_append, List.cons.injEq] at h
    obtain ⟨ps, m, rs, h1, h2, h3, h4⟩ := map_split h.2
    exact ⟨n :: ps, m, rs, by rw [h1]; rfl, by rw [h2, ← h.1]; rfl, h3, h4⟩
theorem rangeD_eq (lo : Int) (n : Nat) : rangeD lo n = (List.range n).map fun (j : Nat) => D.int (lo + j) := rfl
theorem range_split {n : Nat} {ps rs : List Nat} {m : Nat} (h : List.range n = ps ++ m :: rs) : m = ps.length ∧ m < n ∧ ps = List.range m := by
  have h1 : (List.range n)[ps.length]? = some m := by rw [h]; simp
  obtain ⟨hl, e⟩ := List.getElem?_eq_some_iff.mp h1
  simp at e hl
  refine ⟨e.symm, by omega, ?_⟩
  have h2 : (List.range n).take ps.length = ps := by rw [h]; simp
  rw [← h2, List.take_range]
  congr 1
  omega
theorem atI_last {α : Type} {xs : List α} {x : α} : atI (xs ++ [x]) (-1) = some x := by
  unfold atI ixN
  have e : ((xs ++ [x]).length : Int) = xs.length + 1 := by simp
  rw [if_neg (by omega), e, if_pos (by omega)]
  have e2 : (-1 + ((xs.length : Int) + 1)).toNat = xs.length := by omega
  rw [e2]
  simp
end HA
namespace HA
open PySem PySem.Spec L2
/-- a frozen comprehension by what was consumed -/
theorem lcF_fold {xs : List D} {st : Mem → Prop} {M1 : Mem} {Q : List D → Prop} {σ : AS} {vs : List Nat} {g : AG} {tt : AT} {te : AE} (hst : ∀ M', MLe M1 M' → st M') (hl : xs.length ≤ sizeLine) (R : List D → List D → Prop) (h0 : R [] [])
    (turn : ∀ pre x rest acc M', xs = pre ++ x :: rest → R pre acc → MLe M1 M' → g x (wipeA σ vs) M' (fun σ2 M2 => tt σ2 M2 (fun b M3 => (b = true → te σ2 M3 (fun y M4 => M4 = M' ∧ R (pre ++ [x]) (acc ++ [y])) EF) ∧ (b = false → M3 = M' ∧ R (pre ++ [x]) acc)) EF) EF) (fin : ∀ acc, R xs acc → Q acc) :
    (∀ M', MLe M1 M' → st M') ∧ xs.length ≤ sizeLine ∧ ∃ R : Nat → List D → Prop, R 0 [] ∧
      (∀ i x acc M', xs[i]? = some x → acc.length ≤ i → R i acc → MLe M1 M' → g x (wipeA σ vs) M' (fun σ2 M2 => tt σ2 M2 (fun b M3 => (b = true → te σ2 M3 (fun y M4 => M4 = M' ∧ R (i + 1) (acc ++ [y])) EF) ∧ (b = false → M3 = M' ∧ R (i + 1) acc)) EF) EF) ∧ ∀ acc, R xs.length acc → Q acc := by
  refine ⟨hst, hl, fun i => R (xs.take i), by simpa using h0, fun i x acc M' hx _ v hM => ?_, fun acc v => fin acc (by simpa using v)⟩
  obtain ⟨e1, e2⟩ := split_at hx
  have := turn (xs.take i) x (xs.drop (i + 1)) acc M' e1 v hM
  simp only [e2]
  exact this
theorem stepD_eq (lo c : Int) (n : Nat) : stepD lo c n = (List.range n).map fun (j : Nat) => D.int (lo + j * c) := rfl
theorem sz_le {n : Nat} (h : n ≤ 16777216) : n ≤ sizeLine := by rw [show sizeLine = 16777216 from by decide]; exact h
theorem rgc_up {n sz : Nat} (h1 : 1 ≤ sz) (h2 : sz ≤ 1000000) (hn : n ≤ 1000000000) : RgC 0 n sz ((n + sz - 1) / sz) := by
  have e : Builtin.Range.rangeSize 0 (n : Int) (sz : Int) = ((n + sz - 1) / sz : Nat) := by
    rw [PyProof.Rows.rangeSize_pos (by omega) (by omega)]
    have : ((n : Int) + sz - 1) = ((n + sz - 1 : Nat) : Int) := by omega
    rw [this]; rfl
  have hb : (n + sz - 1) / sz ≤ n + sz := Nat.le_trans (Nat.div_le_self _ _) (by omega)
  refine ⟨by omega, by omega, ?_, e⟩
  unfold Builtin.Range.small
  rw [e]
  have p : ((sz : Int) > 0) = True := eq_true (by omega)
  simp only [Builtin.Range.rangeFitsLong, Bool.and_eq_true, Bool.or_eq_true, decide_eq_true_eq, beq_iff_eq, p, if_true]
  generalize (n + sz - 1) / sz = z at *
  have q : (2 : Int) ^ 63 = 9223372036854775808 := by decide
  omega
theorem cut_piece {α : Type} {xs : List α} {a k : Nat} : cut xs (some (a : Int)) (some ((a : Int) + k)) = (xs.drop a).take k := by
  unfold cut
  have e : ((a : Int) + k) = ((a + k : Nat) : Int) := by omega
  rw [e, HT.sIx_nat, HT.sIx_nat]
  by_cases h : a ≤ xs.length
  · rw [Nat.min_eq_left h, List.take_eq_take_iff, List.length_drop]; omega
  · rw [List.drop_of_length_le (by omega), List.drop_of_length_le (by omega)]; simp
theorem cut_to {α : Type} {xs : List α} {k : Nat} : cut xs none (some (k : Int)) = xs.take k := by
  unfold cut
  rw [HT.sIx_nat, HT.sIx_none, List.drop_zero, List.take_eq_take_iff]
  omega
theorem cut_from {α : Type} {xs : List α} {k : Nat} : cut xs (some (k : Int)) none = xs.drop k := by
  unfold cut
  rw [HT.sIx_nat, HT.sIx_none]
  by_cases h : k ≤ xs.length
  · rw [Nat.min_eq_left h, List.take_of_length_le (by simp)]
  · rw [List.drop_of_length_le (by omega), List.drop_of_length_le (by omega)]; simp
@[simp] theorem mset_same' {M : Mem} {a : Addr} {c : Cell} : mset M a c a = some c := mset_same
@[simp] theorem mset_mset' {M : Mem} {a : Addr} {c c' : Cell} : mset (mset M a c) a c' = mset M a c' := mset_mset
@[simp] theorem atI_0 {α : Type} {x : α} {xs : List α} : atI (x :: xs) 0 = some x := by
  unfold atI ixN; simp
@[simp] theorem atI_1 {α : Type} {x y : α} {xs : List α} : atI (x :: y :: xs) 1 = some y := by
  unfold atI ixN
  rw [if_pos (by decide), if_pos (by simp only [List.length_cons]; omega)]; rfl
@[simp] theorem atI_2 {α : Type} {x y z : α} {xs : List α} : atI (x :: y :: z :: xs) 2 = some z := by
  unfold atI ixN
  rw [if_pos (by decide), if_pos (by simp only [List.length_cons]; omega)]; rfl
@[simp] theorem atI_map {α β : Type} {f : α → β} {xs : List α} {i : Int} : atI (xs.map f) i = (atI xs i).map f := by
  unfold atI
  rw [List.length_map]
  cases ixN xs.length i <;> simp
theorem atI_nat {α : Type} {xs : List α} {i : Nat} (h : i < xs.length) : atI xs i = some xs[i] := by
  unfold atI ixN
  rw [if_pos (by omega), if_pos (by omega)]
  simp
theorem atI_some {α : Type} {xs : List α} {i : Int} (h0 : 0 ≤ i) (h : i < xs.length) : ∃ x, atI xs i = some x ∧ x ∈ xs := by
  have e : i = (i.toNat : Int) := by omega
  rw [e, atI_nat (by omega)]
  exact ⟨_, rfl, List.getElem_mem _⟩
@[simp] theorem pick_1 {α : Type} {a : α} : pick [0] [a] = [a] := rfl
@[simp] theorem pick_2 {α : Type} {a b : α} : pick [0, 1] [a, b] = [a, b] := rfl
@[simp] theorem pick_3 {α : Type} {a b c : α} : pick [0, 1, 2] [a, b, c] = [a, b, c] := rfl
@[simp] theorem pick_4 {α : Type} {a b c d : α} : pick [0, 1, 2, 3] [a, b, c, d] = [a, b, c, d] := rfl
theorem isLs_ref {M : Mem} {a : Addr} {xs : List D} (h : M a = some (.lst xs)) : isLs M (.ref a) := ⟨xs, h⟩
@[simp] theorem isLs_new {M : Mem} {a : Addr} {xs : List D} : isLs (mset M a (.lst xs)) (.ref a) ↔ True := iff_true_intro ⟨xs, mset_same⟩
end HA
/-! A15: the drawing functions that the laws share. -/
namespace HA
open PySem PySem.Spec L2
def gOf : ASt := (aRet (aOp bIx (aVar 1) (aCall spAny 2 0 [0, 1] (aCons (aVar 0) (aCons (aCB cLen (aCons (aVar 1) aNil)) aNil)) aNil)))
theorem v_of : ∀ ds M Q E, spOf ds M Q E → gOf (anyE Q E) (startA ["deal", "some"] ds) M := by
  intro ds M Q E ⟨x, y, xs, h, hd, hy, hx, hl, q⟩
  subst h
  have hp : 0 < xs.length := by cases xs <;> simp_all
  have h9 : (xs.length : Int).natAbs < 2 ^ 9000 := by
    have : (2 : Nat) ^ 20 ≤ 2 ^ 9000 := Nat.pow_le_pow_right (by decide) (by decide)
    have e : (2 : Nat) ^ 20 = 1048576 := by decide
    omega
  have fin : ∀ r : Int, 0 ≤ r → r < xs.length → ∃ d, atI xs r = some d ∧ ∃ M2, MLe M2 M ∧ Q d M2 := fun r h0 h1 => by
    obtain ⟨d, e, hm⟩ := atI_some h0 h1
    exact ⟨d, e, M, .refl M, q d hm⟩
  rcases hy with rfl | rfl | ⟨a, rfl, ha⟩
  · simp [gOf]
    exact ⟨_, _, rfl, hd, ⟨by omega, h9⟩, fun r h0 h1 => by simpa [anyE] using fin r h0 h1⟩
  · simp [gOf]
    exact ⟨_, _, rfl, hd, ⟨by omega, h9⟩, fun r h0 h1 => by simpa [anyE] using fin r h0 h1⟩
  · simp [gOf, ha]
    exact ⟨_, _, rfl, hd, ⟨by omega, h9⟩, fun r h0 h1 => by simpa [anyE, ha] using fin r h0 h1⟩
/-- deal[0] -/
abbrev gPool : AE := aOp bIx (aVar 0) (aC (.int 0))
abbrev gFull : AT := aTest (aOp oNe gPool (aLstF aNil))
/-- the way to draw; int() ahead of the number that is taken, or behind it -/
def gLast (c : Int) : ASt := aSeq (aAsg (aOp oMod (aCB cInt (aCons (aOp bAddF (aOp oMul (aOp bIx (aVar 0) (aC (.int 1))) (aC (.int 48271))) (aC (.int c))) aNil)) (aC (.int 2147483647))) (agSub (aVar 0) (aC (.int 1))))
  (aRet (aOp oMod (aCB cInt (aCons (aOp oDiv (aOp bIx (aVar 0) (aC (.int 1))) (aC (.int 64))) aNil)) (aVar 1)))
def gTake (w1 w2 : AE → AE) : ASt := aSeq (aAsg (w1 (aMt0 mPop gPool)) (agName 2)) (aSeq (aDrop (aMt mAppend gPool (aCons (aOp oDiv (aVar 2) (aVar 1)) aNil))) (aRet (aOp oMod (w2 (aVar 2)) (aVar 1))))
def gAny (c : Int) (w1 w2 : AE → AE) : ASt :=
  aSeq (aWhile (aAndT gFull (aTest (aOp oEq (aOp bIx gPool (aNeg (aC (.int 1)))) (aC (.int 0))))) (aDrop (aMt0 mPop gPool))) (aSeq (aIf gFull (gTake w1 w2) aNext) (gLast c))
def wInt (t : AE) : AE := aCB cInt (aCons t aNil)
def wId (t : AE) : AE := t
theorem pool_tl {ns : List Int} (h : PoolOk ns) : PoolOk ns.dropLast := ⟨by simp; have := h.1; omega, fun n hn => h.2 n (List.dropLast_subset _ hn)⟩
theorem neq_nil {n : Bool} {M : Mem} {Q : DK} {l : Addr} {ns : List Int} (h : M l = some (.lst (ns.map .int))) (q : Q (.bl (n ^^ decide (ns = []))) M) : bEq n (.ref l) (.lst []) M Q := bEq_lst (xs := ns) (ys := []) (fun _ z => by cases z) h rfl q
theorem v_any (c : Int) (w1 w2 : AE → AE) (hc : 0 ≤ c) (hw1 : ∀ t, w1 t = wInt t ∨ w1 t = t) (hw2 : ∀ t, w2 t = wInt t ∨ w2 t = t) : ∀ ds M Q E, spAnyT ds M Q E → gAny c w1 w2 (anyE Q E) (startA ["deal", "bound", "rest"] ds) M := by
  intro ds M Q E ⟨a, l, n, m, ns, h, hal, ha, hl, hp, hn, hm, q⟩
  subst h
  unfold gAny
  simp only [aSeq]
  refine ⟨fun k σ M' => ∃ ns', k = ns'.length ∧ PoolOk ns' ∧ σ = [some (.ref a), some (.int m), none] ∧ M' = mset M l (.lst (ns'.map .int)), ⟨ns.length, ns, rfl, hp, rfl, (mset_self hl).symm⟩, ?_⟩
  rintro k σ M' ⟨ns', rfl, hp', rfl, rfl⟩
  have ha' : mset M l (.lst (ns'.map .int)) a = some (.lst [.ref l, .int n]) := by rw [mset_ne hal]; exact ha
  have fin : ∀ r n' ns'' M2, 0 ≤ r → r < m → PoolOk ns'' → 0 ≤ n' → n' < 2147483647 → MLe (opn M a l n' ns'') M2 → Q (.int r) M2 := q
  have hlast : ∀ o, gLast c (anyE Q E) [some (.ref a), some (.int m), o] (mset M l (.lst (ns'.map .int))) := fun o => by
    have hr0 := Int.emod_nonneg (n * 48271 + c) (show (2147483647 : Int) ≠ 0 by decide)
    have hr1 := Int.emod_lt_of_pos (n * 48271 + c) (show (0 : Int) < 2147483647 by decide)
    refine ⟨_, _, ha', rfl, MulOk.right (by decide) (by decide), (by show (0 : Int) < 2147483647; decide), _, 1, ha', rfl, _, _, mset_same, rfl, DivOk.small (by decide) (by decide), (by show 0 < m; omega), ?_⟩
    refine ⟨_, .refl _, q _ _ ns' _ (Int.emod_nonneg _ (by omega)) (Int.emod_lt_of_pos _ (by omega)) hp' hr0 hr1 ?_⟩
    unfold opn
    rw [mset_comm hal]
    exact .refl _
  have htake : ns' ≠ [] → gTake w1 w2 { anyE Q E with nx := gLast c (anyE Q E) } [some (.ref a), some (.int m), none] (mset M l (.lst (ns'.map .int))) := fun hne => by
    obtain ⟨y, hy⟩ : ∃ y, ns'[ns'.length - 1]? = some y := get_lt (by have := List.length_pos_iff.mpr hne; omega)
    have hym : y ∈ ns' := List.mem_of_getElem? hy
    have hy0 := hp'.2 y hym
    have ey : (ns'.map D.int)[(ns'.map D.int).length - 1]? = some (.int y) := by simp [hy]
    have ha2 : mset (mset M l (.lst (ns'.map .int))) l (.lst (ns'.map D.int).dropLast) a = some (.lst [.ref l, .int n]) := by rw [mset_ne hal, mset_ne hal]; exact ha
    have pd : PoolOk (ns'.dropLast ++ [y / m]) := by
      refine ⟨by simp; have := hp'.1; omega, fun z hz => ?_⟩
      rcases List.mem_append.mp hz with hz | hz
      · exact (pool_tl hp').2 z hz
      · rw [List.mem_singleton] at hz
        subst hz
        have h0 := Int.ediv_nonneg hy0.1 (show 0 ≤ m by omega)
        have h1 : y / m ≤ y := Int.ediv_le_self _ hy0.1
        exact ⟨h0, Nat.lt_of_le_of_lt (by omega) hy0.2⟩
    have dv : DivOk y m := DivOk.of (b := 9000) hm.1 hm.2 (by decide) (by decide)
    have ed : (ns'.map D.int).dropLast ++ [.int (y / m)] = (ns'.dropLast ++ [y / m]).map D.int := by simp [List.map_dropLast]
    have last : ∀ M2, MLe (opn M a l n (ns'.dropLast ++ [y / m])) M2 → (anyE Q E).rt (.int (y % m)) M2 := fun M2 h => ⟨_, .refl _, q _ n _ _ (Int.emod_nonneg _ (by omega)) (Int.emod_lt_of_pos _ (by omega)) pd hn.1 hn.2 h⟩
    have lm : MLe (opn M a l n (ns'.dropLast ++ [y / m])) (mset (mset (mset M l (.lst (ns'.map .int))) l (.lst (ns'.map D.int).dropLast)) l (.lst ((ns'.map D.int).dropLast ++ [.int (y / m)]))) := by
      rw [ed, mset_mset, mset_mset]
      unfold opn
      rw [mset_self ha]
      exact .refl _
    have back : aSeq (aDrop (aMt mAppend gPool (aCons (aOp oDiv (aVar 2) (aVar 1)) aNil))) (aRet (aOp oMod (w2 (aVar 2)) (aVar 1))) { anyE Q E with nx := gLast c (anyE Q E) } [some (.ref a), some (.int m), some (.int y)] (mset (mset M l (.lst (ns'.map .int))) l (.lst (ns'.map D.int).dropLast)) := by
      refine ⟨_, _, ha2, rfl, ⟨_, mset_same⟩, dv, _, mset_same, ?_, ?_⟩
      · simp; exact Nat.lt_of_lt_of_le (show _ < 16777216 by have := hp'.1; omega) (sz_le (by omega))
      · show aOp oMod (w2 (aVar 2)) (aVar 1) _ _ _ _
        rcases hw2 (aVar 2) with e | e <;> rw [e] <;> exact ⟨hm.1, last _ lm⟩
    show w1 (aMt0 mPop gPool) _ _ _ _
    rcases hw1 (aMt0 mPop gPool) with e | e <;> rw [e] <;> exact ⟨_, _, ha', rfl, _, _, mset_same, ey, back⟩
  have hif : (aIf gFull (gTake w1 w2) aNext) { anyE Q E with nx := gLast c (anyE Q E) } [some (.ref a), some (.int m), none] (mset M l (.lst (ns'.map .int))) := by
    refine ⟨_, _, ha', rfl, (by decide), neq_nil (ns := ns') mset_same ?_⟩
    exact ⟨fun h => htake (by simpa using h), fun h => hlast _⟩
  refine ⟨_, _, ha', rfl, (by decide), neq_nil (ns := ns') mset_same ⟨fun h => ?_, fun h => ⟨fun z => (by cases z), fun _ => hif⟩⟩⟩
  have hne : ns' ≠ [] := by simpa using h
  obtain ⟨y, hy⟩ : ∃ y, ns'[ns'.length - 1]? = some y := get_lt (by have := List.length_pos_iff.mpr hne; omega)
  have ey : (ns'.map D.int)[(ns'.map D.int).length - 1]? = some (.int y) := by simp [hy]
  have ea : atI (ns'.map D.int) (-1) = some (.int y) := by
    unfold atI ixN
    have hl0 := List.length_pos_iff.mpr hne
    rw [if_neg (by decide), List.length_map, if_pos (by omega)]
    have : (-1 + (ns'.length : Int)).toNat = ns'.length - 1 := by omega
    show (ns'.map D.int)[(-1 + (ns'.length : Int)).toNat]? = _
    rw [this]; simp [hy]
  refine ⟨_, _, ha', rfl, _, _, mset_same, ea, ⟨fun h => ?_, fun _ => hif⟩⟩
  refine ⟨_, _, ha', rfl, _, _, mset_same, ey, ns'.dropLast.length, ?_, ns'.dropLast, rfl, pool_tl hp', rfl, ?_⟩
  · have hl0 := List.length_pos_iff.mpr hne
    simp; omega
  · rw [mset_mset, List.map_dropLast]

/-! ### the deal is made -/
def gSrc (ti : AE) (md k : Int) : ASt :=
  aSeq (aAsg (aLcF (aWalk (aSlF (aVar 0) aNoPart (aPart (aC (.int 63))))) (agName 2) aYes (aCB (c1I absI) (aCons (aCB cInt (aCons (aVar 2) aNil)) aNil)) [2]) (agName 3))
    (aSeq (aAsg ti (agName 4))
      (aSeq (aFor (aWalk (aVar 3)) (agName 2) (aAsg (aOp oMod (aCB cInt (aCons (aOp bAddF (aOp bAddF (aOp oMul (aVar 4) (aC (.int 48271))) (aOp oMod (aVar 2) (aC (.int md)))) (aC (.int k))) aNil)) (aC (.int 2147483647))) (agName 4)))
        (aRet (aLst (aCons (aRev (aLcF (aWalk (aVar 3)) (agName 2) (aTest (aOp oGe (aVar 2) (aOp oPow (aC (.int 10)) (aC (.int 18))))) (aVar 2) [2])) (aCons (aVar 4) aNil))))))
theorem absI_ok {z : Int} : 0 ≤ absI z ∧ (absI z).natAbs = z.natAbs := by
  unfold absI
  by_cases h : z < 0
  · rw [if_pos h]; omega
  · rw [if_neg h]; omega
theorem pow18 : CPow 10 18 := by unfold CPow; decide
theorem v_src (ti : AE) (md k : Int) (hmd : 0 < md) (hti : ∀ ns b cs M Q E, 0 ≤ b → b < 1000 → (∀ i : Int, 0 ≤ i → i < 2147483647 → Q (.int i) M) → ti [some (.frz ns), some (.int b), none, some cs, none] M Q E) :
    ∀ ds M Q E, spSrcT ds M Q E → gSrc ti md k (anyE Q E) (startA ["script", "salt", "cell", "cells", "blend"] ds) M := by
  intro ds M Q E ⟨ns, b, h, hl, hbd, hb, q⟩
  subst h
  have hcut : cut (ns.map D.int) none (some 63) = ns.map D.int := by
    have := cut_to (xs := ns.map D.int) (k := 63)
    rw [show (some ((63 : Nat) : Int)) = some 63 from rfl] at this
    rw [this, List.take_of_length_le (by simpa using hl)]
  unfold gSrc
  refine ⟨_, rfl, _, rfl, ?_⟩
  refine lcF_fold (xs := cut (ns.map D.int) none (some 63)) (fun _ _ => ?_) (by rw [hcut]; simp; exact sz_le (by omega)) (fun pre acc => ∃ zs : List Int, pre = zs.map D.int ∧ acc = (zs.map absI).map D.int) ⟨[], rfl, rfl⟩ ?_ ?_
  · trivial
  · rintro pre x rest acc M' e ⟨zs, rfl, rfl⟩ hM
    rw [hcut] at e
    obtain ⟨ps, n, rs, e1, e2, rfl, e4⟩ := map_split e
    refine ⟨fun _ => ⟨rfl, zs ++ [n], by simp, by simp⟩, fun z => (by cases z)⟩
  rw [hcut]
  rintro acc ⟨zs, e, rfl⟩
  have e : ns = zs := by
    have := congrArg (List.map fun d => match d with | D.int i => i | _ => 0) e
    simpa [List.map_map, Function.comp_def] using this
  subst e
  refine hti _ _ _ _ _ _ hb.1 hb.2 fun i hi0 hi1 => ?_
  have hcs : ∀ z ∈ ns.map absI, 0 ≤ z ∧ z.natAbs < 2 ^ big := fun z hz => by
    obtain ⟨y, hy, rfl⟩ := List.mem_map.mp hz
    exact ⟨absI_ok.1, by rw [absI_ok.2]; exact hbd y hy⟩
  have hlc : (ns.map absI).length ≤ 63 := by simpa using hl
  generalize ns.map absI = cs at hcs hlc
  refine ⟨_, rfl, ?_⟩
  refine for_fold (xs := cs.map D.int) (fun pre σ M' => M' = M ∧ ∃ (i : Int) (o : Option D), (0 ≤ i ∧ i < 2147483647) ∧ σ = [some (.frz (ns.map D.int)), some (.int b), o, some (.lst (cs.map D.int)), some (.int i)]) ⟨rfl, i, none, ⟨hi0, hi1⟩, rfl⟩ ?_ ?_
  · rintro pre x rest e σ M' ⟨hM, i, o, hi, hσ⟩
    subst hσ
    obtain ⟨ps, n, rs, e1, e2, rfl, e4⟩ := map_split e
    refine ⟨trivial, MulOk.right (by decide) (by decide), hmd, (by show (0 : Int) < 2147483647; decide), hM, _, _, ⟨Int.emod_nonneg _ (by decide), Int.emod_lt_of_pos _ (by decide)⟩, rfl⟩
  · rintro σ M' ⟨hM, i, o, hi, hσ⟩
    subst hσ
    subst hM
    refine ⟨trivial, _, rfl, ?_⟩
    refine lcF_fold (xs := cs.map D.int) (fun _ _ => ?_) (by simp; exact sz_le (by omega)) (fun pre acc => ∃ zs : List Int, acc = zs.map D.int ∧ zs.length ≤ pre.length ∧ ∀ z ∈ zs, z ∈ cs) ⟨[], rfl, by simp, by simp⟩ ?_ ?_
    · trivial
    · rintro pre x rest acc M2 e ⟨zs, rfl, hz1, hz2⟩ hM
      obtain ⟨ps, n, rs, e1, e2, rfl, e4⟩ := map_split e
      refine ⟨pow18, fun _ => ⟨rfl, zs ++ [n], by simp, by simp; omega, fun z hz => ?_⟩, fun _ => ⟨rfl, zs, rfl, by simp; omega, hz2⟩⟩
      rcases List.mem_append.mp hz with hz | hz
      · exact hz2 z hz
      · rw [List.mem_singleton] at hz; subst hz; rw [e1]; simp
    · rintro acc ⟨zs, rfl, hz1, hz2⟩
      refine ⟨_, rfl, fun l hl0 => ⟨sz_le (by simp), fun a ha0 => ?_⟩⟩
      have nal : a ≠ l := fun z => by subst z; rw [mset_same] at ha0; cases ha0
      have ha1 : M' a = none := by rw [mset_ne nal] at ha0; exact ha0
      refine ⟨_, .refl _, q a l i zs.reverse _ nal ha1 hl0 (.new2 ha0 (.new hl0)) mset_same ?_ ⟨?_, fun z hz => hcs z (hz2 z (by simpa using hz))⟩ hi.1 hi.2⟩
      · rw [mset_ne (Ne.symm nal), mset_same, List.map_reverse]
      · simp at hz1 ⊢; omega
end HA
namespace HA
open PySem PySem.Spec PyProof.Rows L2
open PySem.AutoSeq1 (wpAny_loadPart')
theorem tuple_mul1 (l : Addr) (items : Array Value) (n : Nat) (dd : Option Addr) (sl : Array (Option Value)) (x : Int) (u : Tok) (c0 : (decide (x < -(2 ^ 63)) || decide (x ≥ 2 ^ 63)) = false) (c1 : (items.isEmpty || x == 1) = true) :
    Meets (Builtin.«tuple.__mul__» ⟨[.ref l, .int x u], []⟩) (fun _ R s => s.heap.get? l = some { cls := .type "tuple", dict := dd, data := .seq items n, slots := sl } ∧ R (.ok (.ret (Value.ref l))) { s with toks := s.toks }) :=
  .of_wp fun prog w A R s h => by
    obtain ⟨hp, g, d, tk, os⟩ := s
    obtain ⟨hl, h⟩ := h
    have f1 := AutoSeq1.idx_int
    wp_walk using wpAny_loadPart' hl
    repeat (first
      | (refine wpAny_ite_false (decide_eq_false (by rw [c0]; exact Bool.false_ne_true)) ?_; wp_walk using wpAny_loadPart' hl)
      | (refine wpAny_ite_true (decide_eq_true c1) ?_; wp_walk using wpAny_loadPart' hl))
    exact ⟨_, rfl, h⟩
theorem tuple_mul0 (l : Addr) (items : Array Value) (n : Nat) (dd : Option Addr) (sl : Array (Option Value)) (x : Int) (u : Tok) (c0 : (decide (x < -(2 ^ 63)) || decide (x ≥ 2 ^ 63)) = false) (c1 : (items.isEmpty || x == 1) = false) (c2 : (decide (x ≤ 0) || items.isEmpty) = true) :
    Meets (Builtin.«tuple.__mul__» ⟨[.ref l, .int x u], []⟩) (fun _ R s => s.heap.get? l = some { cls := .type "tuple", dict := dd, data := .seq items n, slots := sl } ∧
      R (.ok (.ret (Value.ref s.heap.objs.size))) { s with heap := s.heap.push { cls := Value.type "tuple", data := Data.seq #[] }, toks := s.toks }) :=
  .of_wp fun prog w A R s h => by
    obtain ⟨hp, g, d, tk, os⟩ := s
    obtain ⟨hl, h⟩ := h
    have f1 := AutoSeq1.idx_int
    wp_walk using wpAny_loadPart' hl
    repeat (first
      | (refine wpAny_ite_false (decide_eq_false (by rw [c0]; exact Bool.false_ne_true)) ?_; wp_walk using wpAny_loadPart' hl)
      | (refine wpAny_ite_false (decide_eq_false (by rw [c1]; exact Bool.false_ne_true)) ?_; wp_walk using wpAny_loadPart' hl)
      | (refine wpAny_ite_true (decide_eq_true c2) ?_; wp_walk using wpAny_loadPart' hl))
    exact ⟨_, rfl, h⟩
section
variable {X : Cx}
/-- a tuple times an int -/
def rRepA (K : PySem.W.Frag) : R2 := fun x y H Q => ∃ l k xs, x = .ref l ∧ y = .int k ∧ SqT K H l xs ∧ -(2 ^ 62) ≤ k ∧ k ≤ 1000 ∧ xs.length ≤ 1000 ∧ (xs = [] ∨ k = 1 → Q (.ref l) H) ∧ (xs ≠ [] → k ≠ 1 → ∀ p, H p = none → Q (.ref p) (upd H p (.tup (List.replicate k.toNat xs).flatten)))
theorem op_repA : OpR X (binaryOp .Mult) (rRepA X.K) := by
  intro pins s σ H x y v u Q I rx ry h
  obtain ⟨l, k, xs, rfl, rfl, hT, h1, h2, hz, q1, q2⟩ := h
  have e62 : (2 : Int) ^ 62 = 4611686018427387904 := by decide
  have e63 : (2 : Int) ^ 63 = 9223372036854775808 := by decide
  by_cases hk : xs = [] ∨ k = 1 ∨ k ≤ 0
  · cases rx
    obtain ⟨t, rfl⟩ := ry
    obtain ⟨its, r, ⟨⟨cls, dd, data, sl⟩, ho, hc, n, hd⟩, hs⟩ := I.tuple hT
    simp only at hc hd
    subst hc hd
    have hle : its.length = xs.length := r.length.symm
    have c0 : (decide (k < -(2 ^ 63)) || decide (k ≥ 2 ^ 63)) = false := by
      rw [decide_eq_false (by omega), decide_eq_false (by omega)] <;> rfl
    by_cases h1k : xs = [] ∨ k = 1
    · have c1 : (its.toArray.isEmpty || k == 1) = true := by
        rcases h1k with e | e
        · have : its = [] := List.eq_nil_of_length_eq_zero (by rw [hle, e]; rfl)
          subst this; rfl
        · subst e; simp
      refine wpAny_binaryOp_repeat_ref (T := "tuple") (U := "int") (by decide) ⟨_, ho, rfl⟩ (fun s' => typeIs_int s' k t) noFill_tuple_mul F.fills_int_mul F.slot_int_rmul repeat_tuple F.slot_int_index.lookup
        (call_meets F.slot_int_rmul (typeIs_int s k t) F.entry_int_rmul (F.args_int_rmul_2 _ _) (int_rmul_tuple k t l its.toArray n dd sl)
          ⟨ho, rfl, ⟨_, ho, rfl⟩, call_meets F.slot_tuple_mul ⟨_, ho, rfl⟩ F.entry_tuple_mul (F.args_tuple_mul_2 _ _) (tuple_mul1 l its.toArray n dd sl k t c0 c1) ⟨ho, ?_⟩⟩)
      exact ⟨.ref l, H, I, rfl, q1 h1k⟩
    · have hne : xs ≠ [] := fun e => h1k (.inl e)
      have hk1 : k ≠ 1 := fun e => h1k (.inr e)
      have hk0 : k ≤ 0 := by
        rcases hk with e | e | e
        · exact absurd e hne
        · exact absurd e hk1
        · exact e
      have hi : its.toArray.isEmpty = false := by
        cases its with
        | nil => exact absurd (List.eq_nil_of_length_eq_zero hle.symm) hne
        | cons a b => rfl
      have c1 : (its.toArray.isEmpty || k == 1) = false := by
        rw [hi, Bool.false_or]; exact beq_eq_false_iff_ne.mpr hk1
      have c2 : (decide (k ≤ 0) || its.toArray.isEmpty) = true := by rw [decide_eq_true hk0]; rfl
      refine wpAny_binaryOp_repeat_ref (T := "tuple") (U := "int") (by decide) ⟨_, ho, rfl⟩ (fun s' => typeIs_int s' k t) noFill_tuple_mul F.fills_int_mul F.slot_int_rmul repeat_tuple F.slot_int_index.lookup
        (call_meets F.slot_int_rmul (typeIs_int s k t) F.entry_int_rmul (F.args_int_rmul_2 _ _) (int_rmul_tuple k t l its.toArray n dd sl)
          ⟨ho, rfl, ⟨_, ho, rfl⟩, call_meets F.slot_tuple_mul ⟨_, ho, rfl⟩ F.entry_tuple_mul (F.args_tuple_mul_2 _ _) (tuple_mul0 l its.toArray n dd sl k t c0 c1 c2) ⟨ho, ?_⟩⟩)
      have q := q2 hne hk1
      have e0 : k.toNat = 0 := by omega
      rw [e0] at q
      exact ⟨.ref s.heap.objs.size, _, I.laid (t' := s.toks) (o := .tup []) (fun b ob q => Heap.get?_push_of_some _ q) (Nat.le_refl _) ⟨Nat.zero_le _, [], .nil, IsTup.new _ _⟩, rfl, q _ (I.hok.fresh (Nat.le_refl _))⟩
  · have hne : xs ≠ [] := fun e => hk (.inl e)
    exact op_repT pins s σ H _ _ v u Q I rx ry ⟨l, k, xs, rfl, rfl, hT, hne, by omega, h2, hz, q2 hne (by omega)⟩
end
def bMul2 : A2 := fun x y M Q => match x, y with
  | .int i, .int j => MulOk i j ∧ Q (.int (i * j)) M
  | .tup xs, .int k => (-(2 ^ 62) ≤ k ∧ k ≤ 1000) ∧ xs.length ≤ 1000 ∧ Q (.tup (List.replicate k.toNat xs).flatten) M
  | _, _ => False
theorem bMul2_ok {K : PySem.W.Frag} : OkR K bMul2 (fun x y H Q => (rI MulOk fun i j => .int (i * j)) x y H Q ∨ rRepA K x y H Q) := fun G M H x y xv yv Q R m rx ry h k => by
  unfold bMul2 at h
  split at h
  · cases rx; cases ry
    exact .inl ⟨_, _, rfl, rfl, h.1, k _ _ (.here m (.int _) h.2)⟩
  · rename_i xs n
    obtain ⟨a, vs, rfl, p, t⟩ := rp_tup rx
    cases ry
    obtain ⟨⟨h1, h2⟩, h3, q⟩ := h
    refine .inr ⟨a, _, vs, rfl, rfl, same_sqt m.same p, h1, h2, by rw [← t.len]; exact h3, fun e => ?_, fun _ _ p hp => Kv.tup m k (t.rep _) hp q⟩
    have : (List.replicate n.toNat xs).flatten = xs := by
      rcases e with e | e
      · subst e; cases t; simp
      · subst e; simp
    rw [this] at q
    exact k _ _ (.here m rx q)
  · exact h.elim
section
variable {X : Cx} {B : Hp} {W : WX} {a b : Expr} {ta tb : AE} {pos : Pos}
theorem qe_mul2 (ha : QE X B W a ta) (hb : QE X B W b tb) : QE X B W (.BinOp a .Mult b pos) (aOp bMul2 ta tb) := qe_op (op_mulO.or op_repA) bMul2_ok ha hb
/-- what is never reached -/
def aDead : ASt := fun _ _ _ => False
theorem qs_dead {st : Stmt} : QS X B W st aDead := ⟨fun pins s σ H D I ⟨_, _, _, _, _, h, _⟩ => h.elim⟩
end
end HA
/-! A17: plain lemmas and defs that many laws share. -/
namespace HA
open PySem PySem.Spec L2
def tI (ns : List Int) : D := .tup (ns.map .int)
def Oct (ns : List Int) : Prop := ∀ n ∈ ns, 0 ≤ n ∧ n < 256
/-- the number of octets, the lowest first -/
def numOf (ns : List Int) : Int := ns.foldr (fun o t => 256 * t + o) 0
theorem int_inj {xs ys : List Int} : List.map D.int xs = List.map D.int ys ↔ xs = ys := by
  constructor
  · intro h
    have := congrArg (List.map fun d => match d with | D.int i => i | _ => 0) h
    simpa [List.map_map, Function.comp_def] using this
  · rintro rfl; rfl
theorem tI_inj {a b : List Int} (h : tI a = tI b) : a = b := int_inj.mp (by injection h)
theorem Oct.app {a b : List Int} (h : Oct a) (k : Oct b) : Oct (a ++ b) := fun n hn => (List.mem_append.mp hn).elim (h n) (k n)
theorem Oct.take {a : List Int} {n : Nat} (h : Oct a) : Oct (a.take n) := fun m hm => h m (List.mem_of_mem_take hm)
theorem Oct.drop {a : List Int} {n : Nat} (h : Oct a) : Oct (a.drop n) := fun m hm => h m (List.mem_of_mem_drop hm)
theorem Oct.one {n : Int} (h : 0 ≤ n) (k : n < 256) : Oct [n] := fun m hm => by rw [List.mem_singleton] at hm; subst hm; exact ⟨h, k⟩
theorem Oct.zeros (n : Nat) : Oct (List.replicate n 0) := fun m hm => by rw [List.eq_of_mem_replicate hm]; decide
theorem Oct.small {ns : List Int} (h : Oct ns) : SmallI ns := fun n hn => by
  have := h n hn
  have e : (2 : Nat) ^ 8 ≤ 2 ^ 1920 := Nat.pow_le_pow_right (by decide) (by decide)
  have e2 : (2 : Nat) ^ 8 = 256 := by decide
  omega
theorem num_bd : ∀ {ns : List Int}, Oct ns → 0 ≤ numOf ns ∧ numOf ns < 256 ^ ns.length
  | [], _ => by simp [numOf]
  | n :: r, h => by
    have ih := num_bd (ns := r) fun m hm => h m (List.mem_cons_of_mem _ hm)
    have h0 := h n List.mem_cons_self
    have e : numOf (n :: r) = 256 * numOf r + n := rfl
    have e2 : (256 : Int) ^ (n :: r).length = 256 * 256 ^ r.length := by rw [List.length_cons, Int.pow_succ]; omega
    rw [e, e2]
    generalize (256 : Int) ^ r.length = z at *
    omega
theorem num_snoc {ns : List Int} {n : Int} : numOf (ns ++ [n]) = numOf ns + 256 ^ ns.length * n := by
  induction ns with
  | nil => simp [numOf]
  | cons m r ih =>
    have e : numOf (m :: r) = 256 * numOf r + m := rfl
    have e1 : numOf (m :: r ++ [n]) = 256 * numOf (r ++ [n]) + m := rfl
    have e2 : (256 : Int) ^ (m :: r).length = 256 * 256 ^ r.length := by rw [List.length_cons, Int.pow_succ]; omega
    rw [e1, ih, e, e2]
    generalize (256 : Int) ^ r.length = z at *
    grind
theorem na_lt {i : Int} {n : Nat} (h0 : 0 ≤ i) (h : i < 2 ^ n) : i.natAbs < 2 ^ n := by
  have e : ((2 ^ n : Nat) : Int) = 2 ^ n := by norm_cast
  omega
theorem dr_ok {m : Int} (h0 : 0 < m) (h : m < 1606938044258990275541962092341162602522202993782792835301376) : 0 < m ∧ m.natAbs < 2 ^ 9000 := by
  have e : (2 : Nat) ^ 200 ≤ 2 ^ 9000 := Nat.pow_le_pow_right (by decide) (by decide)
  have e2 : (2 : Nat) ^ 200 = 1606938044258990275541962092341162602522202993782792835301376 := by decide
  refine ⟨h0, Nat.lt_of_lt_of_le ?_ e⟩
  rw [e2]; omega
theorem sm200 {z : Int} (h0 : 0 ≤ z) (h : z < 2 ^ 200) : z.natAbs < 2 ^ 1920 := Nat.lt_of_lt_of_le (na_lt h0 h) (Nat.pow_le_pow_right (by decide) (by decide))
theorem ne_self {α : Type} [DecidableEq α] {x y : α} (e : x = y) (h : (true ^^ decide (x = y)) = true) : False := by
  subst e; simp at h
theorem add_ok {ns : List Int} {z : Int} {k : Nat} (hl : ns.length = k) (ho : Oct ns) (h0 : 0 ≤ z) (h1 : z < 256) : ∃ ns' : List Int, ns.map D.int ++ [.int z] = ns'.map .int ∧ ns'.length = k + 1 ∧ Oct ns' := ⟨ns ++ [z], by simp, by simp [hl], ho.app (.one h0 h1)⟩
/-! ### the number of octets -/
def gNum : ASt := aSeq (aAsg (aC (.int 0)) (agName 1)) (aSeq (aFor (aWalk (aRevF (aVar 0))) (agName 2) (aAsg (aOp bAddF (aOp oMul (aC (.int 256)) (aVar 1)) (aVar 2)) (agName 1))) (aRet (aVar 1)))
def spNum : ASp := fun ds M Q _ => ∃ ns : List Int, ds = [tI ns] ∧ Q (.int (numOf ns)) M
theorem v_num : ∀ ds M Q E, spNum ds M Q E → gNum (pureE M Q E) (startA ["octets", "total", "octet"] ds) M := by
  intro ds M Q E ⟨ns, h, q⟩
  subst h
  unfold gNum
  refine for_fold (xs := (ns.map D.int).reverse) (fun pre σ M' => M' = M ∧ ∃ (ms : List Int) (o : Option D), pre = ms.map D.int ∧ σ = [some (tI ns), some (.int (numOf ms.reverse)), o]) ⟨rfl, [], none, rfl, rfl⟩ ?_ ?_
  · rintro pre x rest e σ M' ⟨hM, ms, o, hpre, hσ⟩
    subst hσ
    rw [← List.map_reverse] at e
    obtain ⟨ps, n, rs, e1, e2, rfl, e4⟩ := map_split e
    exact ⟨trivial, MulOk.left (by decide) (by decide), hM, ms ++ [n], some (.int n), by rw [hpre]; simp, by rw [List.reverse_append]; rfl⟩
  · rintro σ M' ⟨hM, ms, o, hpre, hσ⟩
    subst hσ
    rw [← List.map_reverse, int_inj] at hpre
    subst hM
    rw [← hpre, List.reverse_reverse]
    exact ⟨trivial, .refl _, q⟩
/-! ### drawn octets, all alike now and then -/
def gOct : ASt := aSeq (aAsg (aCall spAny 2 0 [0, 1] (aCons (aVar 0) (aCons (aC (.int 8)) aNil)) aNil) (agName 2))
  (aRet (aCB cTuple (aCons (aLcF (aRng1 (aCons (aVar 1) aNil)) (agName 3) aYes (aIfE (aTest (aOp oLt (aVar 2) (aC (.int 2)))) (aOp oMul (aC (.int 255)) (aVar 2)) (aCall spAny 2 0 [0, 1] (aCons (aVar 0) (aCons (aC (.int 256)) aNil)) aNil)) [3]) aNil)))
def spOct : ASp := fun ds M Q _ => ∃ (x : D) (m : Nat), ds = [x, .int m] ∧ Deal M x ∧ m ≤ 100000 ∧ ∀ ns, ns.length = m → Oct ns → Q (tI ns) M
theorem v_oct : ∀ ds M Q E, spOct ds M Q E → gOct (pureE M Q E) (startA ["deal", "many", "kind", "turn"] ds) M := by
  intro ds M Q E ⟨x, m, h, hd, hm, q⟩
  subst h
  refine ⟨rfl, rfl, x, 8, rfl, hd, dr_ok (by decide) (by decide), fun kd k0 k8 => ?_⟩
  refine ⟨⟨by omega, by omega⟩, ?_⟩
  have e0 : ((m : Int)).toNat = m := by omega
  refine lcF_fold (xs := rangeD 0 ((m : Int)).toNat) (fun _ _ => ?_) (by rw [rangeD_len]; exact sz_le (by omega)) (fun pre acc => ∃ ns : List Int, acc = ns.map .int ∧ ns.length = pre.length ∧ Oct ns) ⟨[], rfl, rfl, fun _ h => nomatch h⟩ ?_ ?_
  · trivial
  · rintro pre y rest acc M' e ⟨ns, rfl, hl, ho⟩ hM
    have el : (pre ++ [y]).length = pre.length + 1 := by simp
    rw [el]
    obtain ⟨ps, n, rs, e1, e2, rfl, e4⟩ := map_split ((rangeD_eq _ _).symm.trans e)
    refine ⟨fun _ => ⟨fun h => ⟨MulOk.left (by decide) (by decide), rfl, add_ok hl ho ?_ ?_⟩, fun _ => ⟨rfl, rfl, x, 256, rfl, hd.up hM, dr_ok (by decide) (by decide), fun r r0 r1 => ⟨rfl, add_ok hl ho r0 r1⟩⟩⟩, fun z => nomatch z⟩
    · omega
    · have := of_decide_eq_true h; omega
  · rintro acc ⟨ns, rfl, hl, ho⟩
    refine ⟨_, rfl, .refl M, q ns ?_ ho⟩
    rw [hl, rangeD_len, e0]
end HA
/-! A18: more names; ranges from anywhere. -/
namespace HA
open PySem PySem.Spec L2
abbrev cMax : AC := c2I fun i j => if j > i then j else i
abbrev cMin : AC := c2I fun i j => if j < i then j else i
/-- range(lo, hi, sz), upwards -/
theorem rgc_from {lo hi : Int} {sz : Nat} (h1 : 1 ≤ sz) (h2 : sz ≤ 1000000) (hl : -1000000000 ≤ lo ∧ lo ≤ 1000000000) (hh : -1000000000 ≤ hi ∧ hi ≤ 1000000000) : ∃ n : Nat, RgC lo hi sz n ∧ ((n : Int) = if lo < hi then (hi - lo - 1) / sz + 1 else 0) := by
  have p : ((sz : Int) > 0) := by omega
  have e : Builtin.Range.rangeSize lo hi (sz : Int) = if lo < hi then (hi - lo - 1) / sz + 1 else 0 := by
    unfold Builtin.Range.rangeSize
    rw [if_pos p]
  have b0 : 0 ≤ (if lo < hi then (hi - lo - 1) / (sz : Int) + 1 else 0) := by
    split
    · have := Int.ediv_nonneg (show 0 ≤ hi - lo - 1 by omega) (show (0 : Int) ≤ sz by omega)
      omega
    · omega
  have b1 : (if lo < hi then (hi - lo - 1) / (sz : Int) + 1 else 0) ≤ 2000000001 := by
    split
    · have := Int.ediv_le_self (sz : Int) (show 0 ≤ hi - lo - 1 by omega)
      omega
    · omega
  refine ⟨(if lo < hi then (hi - lo - 1) / (sz : Int) + 1 else 0).toNat, ⟨by omega, by omega, ?_, by rw [e]; omega⟩, by omega⟩
  unfold Builtin.Range.small
  rw [e]
  have pt : ((sz : Int) > 0) = True := eq_true p
  simp only [Builtin.Range.rangeFitsLong, Bool.and_eq_true, Bool.or_eq_true, decide_eq_true_eq, beq_iff_eq, pt, if_true]
  have q : (2 : Int) ^ 63 = 9223372036854775808 := by decide
  generalize (if lo < hi then (hi - lo - 1) / (sz : Int) + 1 else 0) = z at *
  omega
end HA
/-! PN: primes, plain. -/
namespace PN
def Pr (n : Nat) : Prop := 2 ≤ n ∧ ∀ d, d ∣ n → d = 1 ∨ d = n
theorem Pr.two {n : Nat} (h : Pr n) : 2 ≤ n := h.1
/-- every number from 2 on has a prime divisor -/
theorem has_prime : ∀ n : Nat, 2 ≤ n → ∃ r, Pr r ∧ r ∣ n := by
  intro n
  induction n using Nat.strongRecOn with
  | _ n ih =>
    intro h
    by_cases hp : Pr n
    · exact ⟨n, hp, Nat.dvd_refl n⟩
    · have : ∃ d, d ∣ n ∧ d ≠ 1 ∧ d ≠ n := by
        refine Classical.byContradiction fun c => hp ⟨h, fun d hd => ?_⟩
        refine Classical.byContradiction fun e => c ⟨d, hd, fun z => e (.inl z), fun z => e (.inr z)⟩
      obtain ⟨d, hd, h1, h2⟩ := this
      have d0 : d ≠ 0 := fun z => by subst z; rw [Nat.zero_dvd] at hd; omega
      have hle : d ≤ n := Nat.le_of_dvd (by omega) hd
      obtain ⟨r, hr, hrd⟩ := ih d (by omega) (by omega)
      exact ⟨r, hr, Nat.dvd_trans hrd hd⟩
/-- a number that is no prime has a prime divisor of at most its root -/
theorem small_prime {n : Nat} (h : 2 ≤ n) (hp : ¬ Pr n) : ∃ r, Pr r ∧ r ∣ n ∧ r * r ≤ n := by
  have : ∃ d, d ∣ n ∧ d ≠ 1 ∧ d ≠ n := by
    refine Classical.byContradiction fun c => hp ⟨h, fun d hd => ?_⟩
    refine Classical.byContradiction fun e => c ⟨d, hd, fun z => e (.inl z), fun z => e (.inr z)⟩
  obtain ⟨d, ⟨e, he⟩, h1, h2⟩ := this
  have d0 : d ≠ 0 := fun z => by subst z; omega
  have e1 : e ≠ 1 := fun z => by subst z; omega
  have e0 : e ≠ 0 := fun z => by subst z; omega
  by_cases hle : d ≤ e
  · obtain ⟨r, hr, hrd⟩ := has_prime d (by omega)
    have rd : r ≤ d := Nat.le_of_dvd (by omega) hrd
    exact ⟨r, hr, Nat.dvd_trans hrd ⟨e, he⟩, by rw [he]; exact Nat.mul_le_mul rd (by omega)⟩
  · obtain ⟨r, hr, hrd⟩ := has_prime e (by omega)
    have rd : r ≤ e := Nat.le_of_dvd (by omega) hrd
    exact ⟨r, hr, Nat.dvd_trans hrd ⟨d, by rw [he, Nat.mul_comm]⟩, by rw [he]; exact Nat.mul_le_mul (by omega) rd⟩
theorem Pr.cop {p a : Nat} (h : Pr p) (ha : ¬ p ∣ a) : Nat.Coprime p a := by
  have hd := Nat.gcd_dvd_left p a
  rcases h.2 _ hd with e | e
  · exact e
  · exact absurd (e ▸ Nat.gcd_dvd_right p a) ha
theorem Pr.dvd_mul {p a b : Nat} (h : Pr p) (hd : p ∣ a * b) : p ∣ a ∨ p ∣ b := by
  by_cases ha : p ∣ a
  · exact .inl ha
  · exact .inr ((h.cop ha).dvd_of_dvd_mul_left hd)
/-! ### the binomial row -/
def C : Nat → Nat → Nat
  | _, 0 => 1
  | 0, _ + 1 => 0
  | n + 1, k + 1 => C n k + C n (k + 1)
theorem C_zero (n : Nat) : C n 0 = 1 := by cases n <;> rfl
theorem C_succ (n k : Nat) : C (n + 1) (k + 1) = C n k + C n (k + 1) := rfl
theorem C_big : ∀ (n k : Nat), n < k → C n k = 0
  | 0, k + 1, _ => rfl
  | n + 1, k + 1, h => by rw [C_succ, C_big n k (by omega), C_big n (k + 1) (by omega)]
theorem C_self : ∀ n : Nat, C n n = 1
  | 0 => rfl
  | n + 1 => by rw [C_succ, C_self n, C_big n (n + 1) (by omega)]
theorem C_mul : ∀ (n k : Nat), (k + 1) * C (n + 1) (k + 1) = (n + 1) * C n k
  | 0, 0 => rfl
  | 0, k + 1 => by rw [C_succ]; simp [C]
  | n + 1, 0 => by
    have := C_mul n 0
    rw [C_succ (n + 1) 0, C_zero]
    rw [C_zero] at this
    omega
  | n + 1, k + 1 => by
    have a := C_mul n k
    have b := C_mul n (k + 1)
    rw [C_succ (n + 1) (k + 1)]
    have e := C_succ n k
    rw [e] at a
    generalize C n k = x at *
    generalize C n (k + 1) = y at *
    generalize C (n + 1) (k + 1 + 1) = z at *
    rw [e]
    grind
def sm (f : Nat → Nat) : Nat → Nat
  | 0 => 0
  | n + 1 => sm f n + f n
theorem sm_shift (f : Nat → Nat) : ∀ n, sm f (n + 1) = f 0 + sm (fun k => f (k + 1)) n
  | 0 => by simp [sm]
  | n + 1 => by
    show sm f (n + 1) + f (n + 1) = f 0 + (sm (fun k => f (k + 1)) n + f (n + 1))
    rw [sm_shift f n]; omega
theorem sm_add (f g : Nat → Nat) : ∀ n, sm (fun k => f k + g k) n = sm f n + sm g n
  | 0 => rfl
  | n + 1 => by simp only [sm, sm_add f g n]; omega
theorem sm_mul (c : Nat) (f : Nat → Nat) : ∀ n, sm (fun k => c * f k) n = c * sm f n
  | 0 => rfl
  | n + 1 => by simp only [sm, sm_mul c f n, Nat.mul_add]
theorem sm_congr {f g : Nat → Nat} : ∀ n, (∀ k, k < n → f k = g k) → sm f n = sm g n
  | 0, _ => rfl
  | n + 1, h => by simp only [sm, sm_congr n fun k hk => h k (by omega), h n (by omega)]
theorem binom (a : Nat) : ∀ n, (a + 1) ^ n = sm (fun k => C n k * a ^ k) (n + 1)
  | 0 => by simp [sm, C]
  | n + 1 => by
    rw [sm_shift]
    have e1 : sm (fun k => C (n + 1) (k + 1) * a ^ (k + 1)) (n + 1) = a * sm (fun k => C n k * a ^ k) (n + 1) + sm (fun k => C n (k + 1) * a ^ (k + 1)) (n + 1) := by
      rw [← sm_mul, ← sm_add]
      refine sm_congr _ fun k _ => ?_
      rw [C_succ, Nat.pow_succ]
      generalize a ^ k = w
      grind
    have e2 : C n 0 * a ^ 0 + sm (fun k => C n (k + 1) * a ^ (k + 1)) (n + 1) = sm (fun k => C n k * a ^ k) (n + 1) := by
      rw [← sm_shift (fun k => C n k * a ^ k) (n + 1)]
      show sm (fun k => C n k * a ^ k) (n + 1) + C n (n + 1) * a ^ (n + 1) = _
      rw [C_big n (n + 1) (by omega)]; omega
    rw [C_zero] at e2
    show (a + 1) ^ (n + 1) = C (n + 1) 0 * a ^ 0 + sm (fun k => C (n + 1) (k + 1) * a ^ (k + 1)) (n + 1)
    rw [C_zero, e1, Nat.pow_succ, binom a n]
    generalize sm (fun k => C n k * a ^ k) (n + 1) = x at *
    generalize sm (fun k => C n (k + 1) * a ^ (k + 1)) (n + 1) = y at *
    rw [Nat.mul_add]
    simp at e2 ⊢
    rw [Nat.mul_comm]; omega
theorem C_dvd {p k : Nat} (h : Pr p) (h0 : 0 < k) (hk : k < p) : p ∣ C p k := by
  obtain ⟨q, rfl⟩ : ∃ q, p = q + 1 := ⟨p - 1, by have := h.1; omega⟩
  obtain ⟨j, rfl⟩ : ∃ j, k = j + 1 := ⟨k - 1, by omega⟩
  have e := C_mul q j
  have hd : q + 1 ∣ (j + 1) * C (q + 1) (j + 1) := ⟨C q j, e⟩
  rcases h.dvd_mul hd with z | z
  · exact absurd (Nat.le_of_dvd (by omega) z) (by omega)
  · exact z
theorem sm_dvd {p : Nat} {f : Nat → Nat} : ∀ n, (∀ k, k < n → p ∣ f k) → p ∣ sm f n
  | 0, _ => Nat.dvd_zero p
  | n + 1, h => Nat.dvd_add (sm_dvd n fun k hk => h k (by omega)) (h n (by omega))
theorem frob {p : Nat} (h : Pr p) (a : Nat) : (a + 1) ^ p % p = (a ^ p + 1) % p := by
  obtain ⟨q, rfl⟩ : ∃ q, p = q + 1 := ⟨p - 1, by have := h.1; omega⟩
  rw [binom]
  show (sm (fun k => C (q + 1) k * a ^ k) (q + 1) + C (q + 1) (q + 1) * a ^ (q + 1)) % (q + 1) = _
  rw [sm_shift, C_self, C_zero]
  obtain ⟨z, hz⟩ := sm_dvd (p := q + 1) (f := fun k => C (q + 1) (k + 1) * a ^ (k + 1)) q fun k hk => Nat.dvd_trans (C_dvd h (by omega) (by omega)) (Nat.dvd_mul_right _ _)
  rw [hz]
  have e : 1 * a ^ 0 + (q + 1) * z + 1 * a ^ (q + 1) = (a ^ (q + 1) + 1) + (q + 1) * z := by simp; omega
  rw [e, Nat.add_mul_mod_self_left]
theorem flt0 {p : Nat} (h : Pr p) : ∀ a, a ^ p % p = a % p
  | 0 => by rw [Nat.zero_pow (by have := h.1; omega)]
  | a + 1 => by
    rw [frob h, Nat.add_mod, flt0 h a, ← Nat.add_mod]
theorem flt {p a : Nat} (h : Pr p) (ha : ¬ p ∣ a) : a ^ (p - 1) % p = 1 := by
  have h2 := h.1
  have e := flt0 h a
  have ep : a ^ p = a * a ^ (p - 1) := by
    have : p = (p - 1) + 1 := by omega
    rw [this, Nat.pow_succ, Nat.mul_comm]; simp
  have a0 : a ≠ 0 := fun z => ha (z ▸ Nat.dvd_zero p)
  have p1 : 1 ≤ a ^ (p - 1) := Nat.pow_pos (by omega)
  have hd : p ∣ a * (a ^ (p - 1) - 1) := by
    rw [Nat.mul_sub, Nat.mul_one, ← ep]
    have hle : a ≤ a ^ p := by rw [ep]; exact Nat.le_mul_of_pos_right a p1
    have e1 := Nat.div_add_mod (a ^ p) p
    have e2 := Nat.div_add_mod a p
    have e3 : a ^ p - a = p * (a ^ p / p - a / p) := by
      rw [Nat.mul_sub]
      omega
    exact ⟨_, e3⟩
  rcases h.dvd_mul hd with z | z
  · exact absurd z ha
  · obtain ⟨w, hw⟩ := z
    have : a ^ (p - 1) = 1 + p * w := by omega
    rw [this, Nat.add_mul_mod_self_left, Nat.mod_eq_of_lt (by omega)]
/-! ### Pocklington -/
theorem pow_gcd {x r : Nat} (hr : 2 ≤ r) : ∀ a b : Nat, x ^ a % r = 1 → x ^ b % r = 1 → x ^ (Nat.gcd a b) % r = 1 := by
  intro a b
  induction a, b using Nat.gcd.induction with
  | H0 n => intro _ h; rw [Nat.gcd_zero_left]; exact h
  | H1 m n hm ih =>
    intro h1 h2
    rw [Nat.gcd_rec]
    refine ih ?_ h1
    have e : n = m * (n / m) + n % m := (Nat.div_add_mod n m).symm
    rw [e, Nat.pow_add, Nat.mul_mod, Nat.pow_mul, Nat.pow_mod, h1, Nat.one_pow, Nat.mod_eq_of_lt (by omega : 1 < r), Nat.one_mul, Nat.mod_mod] at h2
    exact h2
/-- f divides r - 1 for each prime divisor r of N -/
theorem pock_dvd {N f m g r : Nat} (hN : 2 ≤ N) (hf : Pr f) (e : N - 1 = m * f) (h1 : g ^ (N - 1) % N = 1) (h2 : Nat.gcd (g ^ m % N + (N - 1)) N = 1) (hr : Pr r) (hrN : r ∣ N) : f ∣ r - 1 := by
  have r2 := hr.1
  have down : ∀ z, z % N = 1 → z % r = 1 := fun z hz => by
    have : z % N % r = z % r := Nat.mod_mod_of_dvd z hrN
    rw [hz] at this
    rw [← this, Nat.mod_eq_of_lt (by omega)]
  have g1 := down _ h1
  have ng : ¬ r ∣ g := fun hd => by
    have : r ∣ g ^ (N - 1) := Nat.dvd_trans hd ⟨g ^ (N - 2), by rw [show N - 1 = (N - 2) + 1 by omega, Nat.pow_succ, Nat.mul_comm]⟩
    rw [Nat.mod_eq_zero_of_dvd this] at g1
    omega
  refine Classical.byContradiction fun nd => ?_
  have cop := hf.cop nd
  have a1 : (g ^ m) ^ f % r = 1 := by rw [← Nat.pow_mul, ← e]; exact g1
  have a2 : (g ^ m) ^ (r - 1) % r = 1 := by
    rw [← Nat.pow_mul, Nat.mul_comm, Nat.pow_mul, Nat.pow_mod, flt hr ng, Nat.one_pow, Nat.mod_eq_of_lt (by omega)]
  have a3 := pow_gcd r2 f (r - 1) a1 a2
  rw [cop, Nat.pow_one] at a3
  have b1 : g ^ m % N % r = 1 := by rw [Nat.mod_mod_of_dvd _ hrN]; exact a3
  have hd : r ∣ g ^ m % N + (N - 1) := by
    obtain ⟨k, hk⟩ := hrN
    have := Nat.div_add_mod (g ^ m % N) r
    rw [b1] at this
    exact ⟨g ^ m % N / r + k, by rw [Nat.mul_add, ← hk]; omega⟩
  have : r ∣ 1 := h2 ▸ Nat.dvd_gcd hd hrN
  have := Nat.le_of_dvd (by decide) this
  omega
/-- powers, by halves -/
def pw (N : Nat) : Nat → Nat → Nat → Nat
  | 0, _, _ => 1 % N
  | k + 1, g, e => if e % 2 = 1 then g * pw N k (g * g % N) (e / 2) % N else pw N k (g * g % N) (e / 2)
theorem pw_eq {N : Nat} : ∀ (k g e : Nat), e < 2 ^ k → pw N k g e = g ^ e % N
  | 0, g, e, h => by
    have : e = 0 := by simpa using h
    subst this; rfl
  | k + 1, g, e, h => by
    have h' : e / 2 < 2 ^ k := by rw [Nat.pow_succ] at h; omega
    have ih := pw_eq (N := N) k (g * g % N) (e / 2) h'
    have e2 : (g * g % N) ^ (e / 2) % N = g ^ (2 * (e / 2)) % N := by rw [← Nat.pow_mod, Nat.pow_mul, Nat.pow_two]
    unfold pw
    rw [ih, e2]
    by_cases hp : e % 2 = 1
    · rw [if_pos hp]
      have : e = 2 * (e / 2) + 1 := by omega
      conv => rhs; rw [this, Nat.pow_succ, Nat.mul_comm]
      rw [Nat.mul_mod g (g ^ (2 * (e / 2)) % N), Nat.mod_mod, ← Nat.mul_mod]
    · rw [if_neg hp]
      have : 2 * (e / 2) = e := by omega
      rw [this]
/-- two primes that divide N - 1 -/
theorem pock2 {N f m g f' m' g' k : Nat} (hN : 2 ≤ N) (hf : Pr f) (hf' : Pr f') (hne : f ≠ f') (e : N - 1 = m * f) (e' : N - 1 = m' * f') (hk : N ≤ 2 ^ k)
    (h1 : pw N k g (N - 1) = 1) (h2 : Nat.gcd (pw N k g m + (N - 1)) N = 1) (h1' : pw N k g' (N - 1) = 1) (h2' : Nat.gcd (pw N k g' m' + (N - 1)) N = 1) (hb : N < (f * f' + 1) * (f * f' + 1)) : Pr N := by
  have f2 := hf.1
  have f2' := hf'.1
  have hm : m < 2 ^ k := Nat.lt_of_le_of_lt (Nat.le_mul_of_pos_right m (show 0 < f by omega)) (by rw [← e]; omega)
  have hm' : m' < 2 ^ k := Nat.lt_of_le_of_lt (Nat.le_mul_of_pos_right m' (show 0 < f' by omega)) (by rw [← e']; omega)
  rw [pw_eq k _ _ (by omega)] at h1 h1'
  rw [pw_eq k _ _ hm] at h2
  rw [pw_eq k _ _ hm'] at h2'
  refine Classical.byContradiction fun hp => ?_
  obtain ⟨r, hr, hrN, hrr⟩ := small_prime hN hp
  have r2 := hr.1
  obtain ⟨u, hu⟩ := pock_dvd hN hf e h1 h2 hr hrN
  have d2 := pock_dvd hN hf' e' h1' h2' hr hrN
  rw [hu] at d2
  have : f' ∣ u := by
    rcases hf'.dvd_mul d2 with z | z
    · rcases hf.2 _ z with y | y
      · omega
      · exact absurd y.symm hne
    · exact z
  obtain ⟨v, hv⟩ := this
  have v0 : v ≠ 0 := fun z => by subst z; rw [hv] at hu; simp at hu; omega
  have : f * f' ≤ r - 1 := by rw [hu, hv, ← Nat.mul_assoc]; exact Nat.le_mul_of_pos_right _ (by omega)
  have := Nat.mul_le_mul (show f * f' + 1 ≤ r by omega) (show f * f' + 1 ≤ r by omega)
  omega
/-- one prime that divides N - 1 -/
theorem pock1 {N f m g k : Nat} (hN : 2 ≤ N) (hf : Pr f) (e : N - 1 = m * f) (hk : N ≤ 2 ^ k) (h1 : pw N k g (N - 1) = 1) (h2 : Nat.gcd (pw N k g m + (N - 1)) N = 1) (hb : N < (f + 1) * (f + 1)) : Pr N := by
  have f2 := hf.1
  have hm : m < 2 ^ k := Nat.lt_of_le_of_lt (Nat.le_mul_of_pos_right m (show 0 < f by omega)) (by rw [← e]; omega)
  rw [pw_eq k _ _ (by omega)] at h1
  rw [pw_eq k _ _ hm] at h2
  refine Classical.byContradiction fun hp => ?_
  obtain ⟨r, hr, hrN, hrr⟩ := small_prime hN hp
  have r2 := hr.1
  have := Nat.le_of_dvd (by omega) (pock_dvd hN hf e h1 h2 hr hrN)
  have := Nat.mul_le_mul (show f + 1 ≤ r by omega) (show f + 1 ≤ r by omega)
  omega
/-- by trial -/
def tri (n : Nat) : Nat → Nat → Bool
  | 0, _ => true
  | k + 1, d => n % d != 0 && tri n k (d + 1)
theorem tri_ok {n : Nat} : ∀ (k d : Nat), tri n k d = true → ∀ c, d ≤ c → c < d + k → n % c ≠ 0
  | 0, d, _, c, h1, h2 => by omega
  | k + 1, d, h, c, h1, h2 => by
    unfold tri at h
    simp only [Bool.and_eq_true, bne_iff_ne] at h
    by_cases e : c = d
    · subst e; exact h.1
    · exact tri_ok k (d + 1) h.2 c (by omega) (by omega)
theorem pr_tri {n k : Nat} (hn : 2 ≤ n) (hk : n < (k + 2) * (k + 2)) (h : tri n k 2 = true) : Pr n := by
  refine Classical.byContradiction fun hp => ?_
  obtain ⟨r, hr, hrN, hrr⟩ := small_prime hn hp
  have r2 := hr.1
  have : r < k + 2 := by
    refine Classical.byContradiction fun c => ?_
    have := Nat.mul_le_mul (show k + 2 ≤ r by omega) (show k + 2 ≤ r by omega)
    omega
  exact tri_ok k 2 h r r2 (by omega) (Nat.mod_eq_zero_of_dvd hrN)
/-! ### the great prime -/
theorem pr127 : Pr 127 := pr_tri (k := 12) (by decide) (by decide) (by decide +kernel)
theorem pr75707 : Pr 75707 := pr_tri (k := 300) (by decide) (by decide) (by decide +kernel)
theorem pr1923133 : Pr 1923133 := pr_tri (k := 1400) (by decide) (by decide) (by decide +kernel)
theorem pr8574133 : Pr 8574133 := pr_tri (k := 3000) (by decide) (by decide) (by decide +kernel)
theorem prA : Pr 1919519569386763 := pock2 (f := 8574133) (m := 223873314) (g := 2) (f' := 127) (m' := 15114327318006) (g' := 2) (k := 51) (by decide) pr8574133 pr127 (by decide) (by decide +kernel) (by decide +kernel) (by decide +kernel) (by decide +kernel) (by decide +kernel) (by decide +kernel) (by decide +kernel) (by decide +kernel)
theorem prB : Pr 75445702479781427272750846543864801 := pock2 (f := 1919519569386763) (m := 39304471641247389600) (g := 2) (f' := 75707) (m' := 996548568557483816196003626400) (g' := 2) (k := 116) (by decide) prA pr75707 (by decide) (by decide +kernel) (by decide +kernel) (by decide +kernel) (by decide +kernel) (by decide +kernel) (by decide +kernel) (by decide +kernel) (by decide +kernel)
theorem prC : Pr 74058212732561358302231226437062788676166966415465897661863160754340907 := pock2 (f := 75445702479781427272750846543864801) (m := 981609426360740691344999861639072106) (g := 2) (f' := 1923133) (m' := 38509147694185143878364744631319200843710219946028640589009268082) (g' := 2) (k := 236) (by decide) prB pr1923133 (by decide) (by decide +kernel) (by decide +kernel) (by decide +kernel) (by decide +kernel) (by decide +kernel) (by decide +kernel) (by decide +kernel) (by decide +kernel)
theorem prG : Pr 57896044618658097711785492504343953926634992332820282019728792003956564819949 := pock1 (f := 74058212732561358302231226437062788676166966415465897661863160754340907) (m := 781764) (g := 2) (k := 255) (by decide) prC (by decide +kernel) (by decide +kernel) (by decide +kernel) (by decide +kernel) (by decide +kernel)
end PN
/-! what each def of k06 promises -/
namespace K06
open PySem PySem.Spec L2 HA
def B300 : Int := 2037035976334486086268445688409378161051468393665936250636140449354381299763336706183397376
def sp_power : ASp := fun ds M Q _ => ∃ (p n : Int) (e : Nat), ds = [.int p, .int n, .int e] ∧ (1 ≤ p ∧ p < B300) ∧ 0 ≤ n ∧ Q (.int (n ^ e % p)) M
/-- r is the inverse of n -/
def Inv (p n r : Int) : Prop := (n % p = 0 → r = 0) ∧ (n % p ≠ 0 → (0 < r ∧ r < p) ∧ r * n % p = 1)
def sp_inverse : ASp := fun ds M Q _ => ∃ p n : Int, ds = [.int p, .int n] ∧ (PN.Pr p.toNat ∧ p < B300) ∧ 0 ≤ n ∧ ∀ r, Inv p n r → Q (.int r) M
def sp_is_prime : ASp := fun ds M Q _ => ∃ n : Int, ds = [.int n] ∧ (0 ≤ n ∧ n ≤ 1000000000) ∧ ∀ b : Bool, (b = true ↔ PN.Pr n.toNat) → Q (.bl b) M
def sp_law_deal : ASp := spSrc
def sp_law_any : ASp := spAny
def sp_law_of : ASp := spOf
def sp_law_is_prime : ASp := fun ds M Q _ => ∃ n : Int, ds = [.int n] ∧ (0 ≤ n ∧ n ≤ 270000) ∧ ∀ b : Bool, (b = true ↔ PN.Pr n.toNat) → Q (.bl b) M
def sp_law_small : ASp := fun ds M Q _ => ∃ x : D, ds = [x, .int 32700] ∧ Deal M x ∧ ∀ p a b : Int, PN.Pr p.toNat → 7 ≤ p → p ≤ 33000 → Q (.tup [.int p, .int a, .int b]) M
def sp_law_power : ASp := fun ds M Q _ => ∃ (p n : Int) (e : Nat), ds = [.int p, .int n, .int e] ∧ (1 ≤ p ∧ p < B300) ∧ (0 ≤ n ∧ n < B300) ∧ e < 2 ^ 300 ∧ Q (.int (n ^ e % p)) M
def sp_law : ASp := spLaw
end K06
/-! the readings and derivations (printed by gen2.py) -/
namespace K06
open PySem PySem.Spec L2 HA
abbrev topS (i : Nat) : Stmt := PySem.Challenge.pw_putinonce_k06_powers_and_inverses.main.body.getD i (.Pass ⟨0, 0, 0, 0⟩)
abbrev st_power : Stmt := topS 1
abbrev st_inverse : Stmt := topS 2
abbrev st_is_prime : Stmt := topS 3
abbrev st_law_deal : Stmt := topS 5
abbrev st_law_any : Stmt := topS 6
abbrev st_law_of : Stmt := topS 7
abbrev st_law_is_prime : Stmt := topS 8
abbrev st_law_small : Stmt := topS 9
abbrev st_law_power : Stmt := topS 10
abbrev st_law : Stmt := topS 11
/-- no built-in is hidden -/
structure Nb (mg : Str → Option Value) : Prop where
  abs_ : mg "abs" = none
  int_ : mg "int" = none
  len_ : mg "len" = none
  range_ : mg "range" = none
  min_ : mg "min" = none
  repr_ : mg "repr" = none
  isinstance_ : mg "isinstance" = none
  bool_ : mg "bool" = none
/-! def power -/
abbrev N_power : List Str := ["p", "number", "exponent", "found", "square"]
abbrev ps_power : List Str := ["p", "number", "exponent"]
theorem sc_power : FnScope N_power ps_power (defScope st_power) := ⟨rfl, rfl, rfl, by decide +kernel, rfl, by decide +kernel, by decide +kernel⟩
def t_power_1 : ASt := (aPar 3 4 (aCons (aOp oMod (aC (.int 1)) (aVar 0)) (aCons (aOp oMod (aVar 1) (aVar 0)) aNil)))
def t_power_2 : ASt := (aAsg (aOp oMod (aOp oMul (aVar 3) (aVar 4)) (aVar 0)) (agName 3))
def t_power_3 : ASt := (aIf (aTruth (aOp oAnd (aVar 2) (aC (.int 1)))) t_power_2 aNext)
def t_power_4 : ASt := (aAsg (aOp oMod (aOp oMul (aVar 4) (aVar 4)) (aVar 0)) (agName 4))
def t_power_5 : ASt := (aAug 2 oShr (aC (.int 1)))
def t_power_6 : ASt := aSeq t_power_4 t_power_5
def t_power_7 : ASt := aSeq t_power_3 t_power_6
def t_power_8 : ASt := (aWhile (aTest (aOp oGt (aVar 2) (aC (.int 0)))) t_power_7)
def t_power_9 : ASt := (aRet (aVar 3))
def t_power_10 : ASt := aSeq t_power_8 t_power_9
def t_power_11 : ASt := aSeq t_power_1 t_power_10
abbrev t_power : ASt := t_power_11
theorem d_power {P : Program} {w : World} {K : PySem.W.Frag} {mg : Str → Option Value} {base : Heap} {f : Addr} (nb : Nb mg)  : DefD P w K mg base N_power "power" st_power f 0 t_power := fun cdv A outer s H E B W hr hg tk hp => by
  have hu := hr.un
  replace hu : (BX P w K mg base N_power "power" st_power f cdv A outer s H E).A.units + 64 < cLine := by omega
  exact (qss_cons (qs_par 3 4 rfl sc_power.nd (qa_cons (qe_mod qe_int (qe_var 0)) (qa_cons (qe_mod (qe_var 1) (qe_var 0)) qa_nil)))
    (qss_cons (qs_while hp (qt_cmp c_gt (qe_var 2) qe_int) (qss_cons (qs_if (qt_truth (qe_and (qe_var 2) qe_int)) (qss_one (qs_set 3 sc_power.nd (qe_mod (qe_mul (qe_var 3) (qe_var 4)) (qe_var 0)))) qss_nil)
    (qss_cons (qs_set 4 sc_power.nd (qe_mod (qe_mul (qe_var 4) (qe_var 4)) (qe_var 0)))
    (qss_one (qs_aug 2 sc_power.nd i_shr qe_int)))))
    (qss_one (qs_ret (qe_var 3)))))
/-! def inverse -/
abbrev N_inverse : List Str := ["p", "number", "low", "high", "ahead", "here", "times"]
abbrev ps_inverse : List Str := ["p", "number"]
theorem sc_inverse : FnScope N_inverse ps_inverse (defScope st_inverse) := ⟨rfl, rfl, rfl, by decide +kernel, rfl, by decide +kernel, by decide +kernel⟩
def t_inverse_1 : ASt := (aPar 2 3 (aCons (aOp oMod (aVar 1) (aVar 0)) (aCons (aVar 0) aNil)))
def t_inverse_2 : ASt := (aAsg (aTup (aCons (aC (.int 1)) (aCons (aC (.int 0)) aNil))) (agTup 2 (agCons (agName 4) (agCons (agName 5) agNil))))
def t_inverse_3 : ASt := (aAsg (aOp oDiv (aVar 3) (aVar 2)) (agName 6))
def t_inverse_4 : ASt := (aPar 2 3 (aCons (aOp oSub (aVar 3) (aOp oMul (aVar 6) (aVar 2))) (aCons (aVar 2) aNil)))
def t_inverse_5 : ASt := (aPar 4 5 (aCons (aOp oSub (aVar 5) (aOp oMul (aVar 6) (aVar 4))) (aCons (aVar 4) aNil)))
def t_inverse_6 : ASt := aSeq t_inverse_4 t_inverse_5
def t_inverse_7 : ASt := aSeq t_inverse_3 t_inverse_6
def t_inverse_8 : ASt := (aWhile (aTest (aOp oGt (aVar 2) (aC (.int 1)))) t_inverse_7)
def t_inverse_9 : ASt := (aRet (aIfE (aTest (aOp oEq (aVar 2) (aC (.int 1)))) (aOp oMod (aVar 4) (aVar 0)) (aC (.int 0))))
def t_inverse_10 : ASt := aSeq t_inverse_8 t_inverse_9
def t_inverse_11 : ASt := aSeq t_inverse_2 t_inverse_10
def t_inverse_12 : ASt := aSeq t_inverse_1 t_inverse_11
abbrev t_inverse : ASt := t_inverse_12
theorem d_inverse {P : Program} {w : World} {K : PySem.W.Frag} {mg : Str → Option Value} {base : Heap} {f : Addr} (nb : Nb mg)  : DefD P w K mg base N_inverse "inverse" st_inverse f 0 t_inverse := fun cdv A outer s H E B W hr hg tk hp => by
  have hu := hr.un
  replace hu : (BX P w K mg base N_inverse "inverse" st_inverse f cdv A outer s H E).A.units + 64 < cLine := by omega
  exact (qss_cons (qs_par 2 3 rfl sc_inverse.nd (qa_cons (qe_mod (qe_var 1) (qe_var 0)) (qa_cons (qe_var 0) qa_nil)))
    (qss_cons (qs_asg (qe_tup (qa_cons qe_int (qa_cons qe_int qa_nil))) (qg_tup rfl (qgs_cons (qg_name 4 sc_inverse.nd) (qgs_cons (qg_name 5 sc_inverse.nd) qgs_nil))))
    (qss_cons (qs_while hp (qt_cmp c_gt (qe_var 2) qe_int) (qss_cons (qs_set 6 sc_inverse.nd (qe_fdiv (qe_var 3) (qe_var 2)))
    (qss_cons (qs_par 2 3 rfl sc_inverse.nd (qa_cons (qe_sub (qe_var 3) (qe_mul (qe_var 6) (qe_var 2))) (qa_cons (qe_var 2) qa_nil)))
    (qss_one (qs_par 4 5 rfl sc_inverse.nd (qa_cons (qe_sub (qe_var 5) (qe_mul (qe_var 6) (qe_var 4))) (qa_cons (qe_var 4) qa_nil)))))))
    (qss_one (qs_ret (qe_ifExp (qt_cmp (c_eq hu) (qe_var 2) qe_int) (qe_mod (qe_var 4) (qe_var 0)) qe_int))))))
/-! def is_prime -/
abbrev N_is_prime : List Str := ["number", "divisor"]
abbrev ps_is_prime : List Str := ["number"]
theorem sc_is_prime : FnScope N_is_prime ps_is_prime (defScope st_is_prime) := ⟨rfl, rfl, rfl, by decide +kernel, rfl, by decide +kernel, by decide +kernel⟩
def t_is_prime_1 : ASt := (aRet (aC (.bl false)))
def t_is_prime_2 : ASt := (aIf (aTest (aOp oLt (aVar 0) (aC (.int 2)))) t_is_prime_1 aNext)
def t_is_prime_3 : ASt := (aAsg (aC (.int 2)) (agName 1))
def t_is_prime_4 : ASt := (aRet (aC (.bl false)))
def t_is_prime_5 : ASt := (aIf (aTest (aOp oEq (aOp oMod (aVar 0) (aVar 1)) (aC (.int 0)))) t_is_prime_4 aNext)
def t_is_prime_6 : ASt := (aAug 1 bIAdd (aC (.int 1)))
def t_is_prime_7 : ASt := aSeq t_is_prime_5 t_is_prime_6
def t_is_prime_8 : ASt := (aWhile (aTest (aOp oLe (aOp oMul (aVar 1) (aVar 1)) (aVar 0))) t_is_prime_7)
def t_is_prime_9 : ASt := (aRet (aC (.bl true)))
def t_is_prime_10 : ASt := aSeq t_is_prime_8 t_is_prime_9
def t_is_prime_11 : ASt := aSeq t_is_prime_3 t_is_prime_10
def t_is_prime_12 : ASt := aSeq t_is_prime_2 t_is_prime_11
abbrev t_is_prime : ASt := t_is_prime_12
theorem d_is_prime {P : Program} {w : World} {K : PySem.W.Frag} {mg : Str → Option Value} {base : Heap} {f : Addr} (nb : Nb mg)  : DefD P w K mg base N_is_prime "is_prime" st_is_prime f 0 t_is_prime := fun cdv A outer s H E B W hr hg tk hp => by
  have hu := hr.un
  replace hu : (BX P w K mg base N_is_prime "is_prime" st_is_prime f cdv A outer s H E).A.units + 64 < cLine := by omega
  exact (qss_cons (qs_if (qt_cmp c_lt (qe_var 0) qe_int) (qss_one (qs_ret qe_bl)) qss_nil)
    (qss_cons (qs_set 1 sc_is_prime.nd qe_int)
    (qss_cons (qs_while hp (qt_cmp c_le (qe_mul (qe_var 1) (qe_var 1)) (qe_var 0)) (qss_cons (qs_if (qt_cmp (c_eq hu) (qe_mod (qe_var 0) (qe_var 1)) qe_int) (qss_one (qs_ret qe_bl)) qss_nil)
    (qss_one (qs_aug 1 sc_is_prime.nd i_add qe_int))))
    (qss_one (qs_ret qe_bl)))))
/-! def _law_deal -/
abbrev N_law_deal : List Str := ["script", "base", "cell", "cells", "mix"]
abbrev ps_law_deal : List Str := ["script", "base"]
theorem sc_law_deal : FnScope N_law_deal ps_law_deal (defScope st_law_deal) := ⟨rfl, rfl, rfl, by decide +kernel, rfl, by decide +kernel, by decide +kernel⟩
def t_law_deal_1 : ASt := (aAsg (aLcF (aWalk (aSlF (aVar 0) aNoPart (aPart (aC (.int 63))))) (agName 2) aYes (aCB (c1I absI) (aCons (aCB cInt (aCons (aVar 2) aNil)) aNil)) [2]) (agName 3))
def t_law_deal_2 : ASt := (aAsg (aOp bAddF (aOp oMul (aC (.int 40127)) (aVar 1)) (aC (.int 863))) (agName 4))
def t_law_deal_3 : ASt := (aAsg (aOp oMod (aCB cInt (aCons (aOp bAddF (aOp bAddF (aOp oMul (aVar 4) (aC (.int 48271))) (aOp oMod (aVar 2) (aC (.int 2147483579)))) (aC (.int 61))) aNil)) (aC (.int 2147483647))) (agName 4))
def t_law_deal_4 : ASt := (aFor (aWalk (aVar 3)) (agName 2) t_law_deal_3)
def t_law_deal_5 : ASt := (aRet (aLst (aCons (aRev (aLcF (aWalk (aVar 3)) (agName 2) (aTest (aOp oGe (aVar 2) (aOp oPow (aC (.int 10)) (aC (.int 18))))) (aVar 2) [2])) (aCons (aVar 4) aNil))))
def t_law_deal_6 : ASt := aSeq t_law_deal_4 t_law_deal_5
def t_law_deal_7 : ASt := aSeq t_law_deal_2 t_law_deal_6
def t_law_deal_8 : ASt := aSeq t_law_deal_1 t_law_deal_7
abbrev t_law_deal : ASt := t_law_deal_8
theorem d_law_deal {P : Program} {w : World} {K : PySem.W.Frag} {mg : Str → Option Value} {base : Heap} {f : Addr} (nb : Nb mg)  : DefD P w K mg base N_law_deal "_law_deal" st_law_deal f 0 t_law_deal := fun cdv A outer s H E B W hr hg tk hp => by
  have hu := hr.un
  replace hu : (BX P w K mg base N_law_deal "_law_deal" st_law_deal f cdv A outer s H E).A.units + 64 < cLine := by omega
  exact (qss_cons (qs_setLcF 3 (own := [("cell", 2)]) rfl sc_law_deal.nd (qi_seq (qe_sliceF (qe_var 0) qo_none (qo_some qe_int))) (blkOk_by (N := N_law_deal) (sc := defScope st_law_deal) (by decide +kernel)) (fun _ h => h) (fun _ _ _ _ _ => (qg_name 2 sc_law_deal.nd)) (fun _ _ _ _ _ => qts_nil) (fun _ _ _ _ _ => (qe_callB cb_abs rfl nb.abs_ bB_abs (qa_cons (qe_callT ct_int rfl nb.int_ bT_int (qa_cons (qe_var 2) qa_nil)) qa_nil))))
    (qss_cons (qs_set 4 sc_law_deal.nd (qe_addF (qe_mul qe_int (qe_var 1)) qe_int))
    (qss_cons (qs_for hp rfl (qi_seq (qe_var 3)) (qg_name 2 sc_law_deal.nd) (qss_one (qs_set 4 sc_law_deal.nd (qe_mod (qe_callT ct_int rfl nb.int_ bT_int (qa_cons (qe_addF (qe_addF (qe_mul (qe_var 4) qe_int) (qe_mod (qe_var 2) qe_int)) qe_int) qa_nil)) qe_int))))
    (qss_one (qs_ret (qe_lst (qa_cons (qe_rev (qe_lcF (own := [("cell", 2)]) rfl sc_law_deal.nd (qi_seq (qe_var 3)) (blkOk_by (N := N_law_deal) (sc := defScope st_law_deal) (by decide +kernel)) (fun _ h => h) (fun _ _ _ _ _ => (qg_name 2 sc_law_deal.nd)) (fun _ _ _ _ _ => (qts_one (qt_cmp c_ge (qe_var 2) (qe_pow qe_int qe_int)))) (fun _ _ _ _ _ => (qe_var 2)))) (qa_cons (qe_var 4) qa_nil))))))))
/-! def _law_any -/
abbrev N_law_any : List Str := ["deal", "bound", "rest"]
abbrev ps_law_any : List Str := ["deal", "bound"]
theorem sc_law_any : FnScope N_law_any ps_law_any (defScope st_law_any) := ⟨rfl, rfl, rfl, by decide +kernel, rfl, by decide +kernel, by decide +kernel⟩
def t_law_any_1 : ASt := (aDrop (aMt0 mPop (aOp bIx (aVar 0) (aC (.int 0)))))
def t_law_any_2 : ASt := (aWhile (aAndT (aTest (aOp oNe (aOp bIx (aVar 0) (aC (.int 0))) (aLstF aNil))) (aTest (aOp oEq (aOp bIx (aOp bIx (aVar 0) (aC (.int 0))) (aNeg (aC (.int 1)))) (aC (.int 0))))) t_law_any_1)
def t_law_any_3 : ASt := (aAsg (aCB cInt (aCons (aMt0 mPop (aOp bIx (aVar 0) (aC (.int 0)))) aNil)) (agName 2))
def t_law_any_4 : ASt := (aDrop (aMt mAppend (aOp bIx (aVar 0) (aC (.int 0))) (aCons (aOp oDiv (aVar 2) (aVar 1)) aNil)))
def t_law_any_5 : ASt := (aRet (aOp oMod (aVar 2) (aVar 1)))
def t_law_any_6 : ASt := aSeq t_law_any_4 t_law_any_5
def t_law_any_7 : ASt := aSeq t_law_any_3 t_law_any_6
def t_law_any_8 : ASt := (aIf (aTest (aOp oNe (aOp bIx (aVar 0) (aC (.int 0))) (aLstF aNil))) t_law_any_7 aNext)
def t_law_any_9 : ASt := (aAsg (aOp oMod (aCB cInt (aCons (aOp bAddF (aOp oMul (aOp bIx (aVar 0) (aC (.int 1))) (aC (.int 48271))) (aC (.int 83))) aNil)) (aC (.int 2147483647))) (agSub (aVar 0) (aC (.int 1))))
def t_law_any_10 : ASt := (aRet (aOp oMod (aCB cInt (aCons (aOp oDiv (aOp bIx (aVar 0) (aC (.int 1))) (aC (.int 64))) aNil)) (aVar 1)))
def t_law_any_11 : ASt := aSeq t_law_any_9 t_law_any_10
def t_law_any_12 : ASt := aSeq t_law_any_8 t_law_any_11
def t_law_any_13 : ASt := aSeq t_law_any_2 t_law_any_12
abbrev t_law_any : ASt := t_law_any_13
theorem d_law_any {P : Program} {w : World} {K : PySem.W.Frag} {mg : Str → Option Value} {base : Heap} {f : Addr} (nb : Nb mg)  : DefD P w K mg base N_law_any "_law_any" st_law_any f 0 t_law_any := fun cdv A outer s H E B W hr hg tk hp => by
  have hu := hr.un
  replace hu : (BX P w K mg base N_law_any "_law_any" st_law_any f cdv A outer s H E).A.units + 64 < cLine := by omega
  exact (qss_cons (qs_while hp (qt_w (qw_and (qt_cmp (c_ne hu) (qe_ix (qe_var 0) qe_int) (qe_lstF qa_nil)) (qw_and1 (qt_cmp (c_eq hu) (qe_ix (qe_ix (qe_var 0) qe_int) (qe_neg qe_int)) qe_int)))) (qss_one (qs_expr (qe_pop (qe_ix (qe_var 0) qe_int)))))
    (qss_cons (qs_if (qt_cmp (c_ne hu) (qe_ix (qe_var 0) qe_int) (qe_lstF qa_nil)) (qss_cons (qs_set 2 sc_law_any.nd (qe_callT ct_int rfl nb.int_ bT_int (qa_cons (qe_pop (qe_ix (qe_var 0) qe_int)) qa_nil)))
    (qss_cons (qs_expr (qe_append (qe_ix (qe_var 0) qe_int) (qa_cons (qe_fdiv (qe_var 2) (qe_var 1)) qa_nil)))
    (qss_one (qs_ret (qe_mod (qe_var 2) (qe_var 1)))))) qss_nil)
    (qss_cons (qs_asg (qe_mod (qe_callT ct_int rfl nb.int_ bT_int (qa_cons (qe_addF (qe_mul (qe_ix (qe_var 0) qe_int) qe_int) qe_int) qa_nil)) qe_int) (qg_sub (qe_var 0) qe_int))
    (qss_one (qs_ret (qe_mod (qe_callT ct_int rfl nb.int_ bT_int (qa_cons (qe_fdiv (qe_ix (qe_var 0) qe_int) qe_int) qa_nil)) (qe_var 1)))))))
/-! def _law_of -/
abbrev N_law_of : List Str := ["deal", "some"]
abbrev ps_law_of : List Str := ["deal", "some"]
theorem sc_law_of : FnScope N_law_of ps_law_of (defScope st_law_of) := ⟨rfl, rfl, rfl, by decide +kernel, rfl, by decide +kernel, by decide +kernel⟩
theorem b_law_any_2 : Bds "_law_any" "_law_any" st_law_any ["deal", "bound"] 2 [] [0, 1] := fun _ _ _ _ _ _ us ws h1 h2 => match us, ws, h1, h2 with | [_, _], [], _, _ => rfl
def t_law_of_1 : ASt := (aRet (aOp bIx (aVar 1) (aCall sp_law_any 2 0 [0, 1] (aCons (aVar 0) (aCons (aCB cLen (aCons (aVar 1) aNil)) aNil)) aNil)))
abbrev t_law_of : ASt := t_law_of_1
theorem d_law_of {P : Program} {w : World} {K : PySem.W.Frag} {mg : Str → Option Value} {base : Heap} {f : Addr} (nb : Nb mg) (c_law_any : Cal P w K mg base 1 "_law_any" st_law_any ps_law_any sp_law_any) : DefD P w K mg base N_law_of "_law_of" st_law_of f 1 t_law_of := fun cdv A outer s H E B W hr hg tk hp => by
  have hu := hr.un
  replace hu : (BX P w K mg base N_law_of "_law_of" st_law_of f cdv A outer s H E).A.units + 64 < cLine := by omega
  exact (qss_one (qs_ret (qe_ix (qe_var 1) (qe_call c_law_any (hr.mono (by decide)) hg tk b_law_any_2 (qa_cons (qe_var 0) (qa_cons (qe_callB cb_len rfl nb.len_ bB_len (qa_cons (qe_var 1) qa_nil)) qa_nil)) qk_nil))))
/-! def _law_is_prime -/
abbrev N_law_is_prime : List Str := ["number", "divisor", "turn"]
abbrev ps_law_is_prime : List Str := ["number"]
theorem sc_law_is_prime : FnScope N_law_is_prime ps_law_is_prime (defScope st_law_is_prime) := ⟨rfl, rfl, rfl, by decide +kernel, rfl, by decide +kernel, by decide +kernel⟩
def t_law_is_prime_1 : ASt := (aAsg (aC (.int 2)) (agName 1))
def t_law_is_prime_2 : ASt := aBreak
def t_law_is_prime_3 : ASt := (aIf (aTest (aOp oGt (aOp oMul (aVar 1) (aVar 1)) (aVar 0))) t_law_is_prime_2 aNext)
def t_law_is_prime_4 : ASt := (aRet (aC (.bl false)))
def t_law_is_prime_5 : ASt := (aIf (aTest (aOp oEq (aOp oMod (aCB cInt (aCons (aVar 0) aNil)) (aVar 1)) (aC (.int 0)))) t_law_is_prime_4 aNext)
def t_law_is_prime_6 : ASt := (aAsg (aOp bAddF (aVar 1) (aC (.int 1))) (agName 1))
def t_law_is_prime_7 : ASt := aSeq t_law_is_prime_5 t_law_is_prime_6
def t_law_is_prime_8 : ASt := aSeq t_law_is_prime_3 t_law_is_prime_7
def t_law_is_prime_9 : ASt := (aFor (aRng1 (aCons (aC (.int 520)) aNil)) (agName 2) t_law_is_prime_8)
def t_law_is_prime_10 : ASt := (aRet (aOp oGt (aVar 0) (aC (.int 1))))
def t_law_is_prime_11 : ASt := aSeq t_law_is_prime_9 t_law_is_prime_10
def t_law_is_prime_12 : ASt := aSeq t_law_is_prime_1 t_law_is_prime_11
abbrev t_law_is_prime : ASt := t_law_is_prime_12
theorem d_law_is_prime {P : Program} {w : World} {K : PySem.W.Frag} {mg : Str → Option Value} {base : Heap} {f : Addr} (nb : Nb mg)  : DefD P w K mg base N_law_is_prime "_law_is_prime" st_law_is_prime f 0 t_law_is_prime := fun cdv A outer s H E B W hr hg tk hp => by
  have hu := hr.un
  replace hu : (BX P w K mg base N_law_is_prime "_law_is_prime" st_law_is_prime f cdv A outer s H E).A.units + 64 < cLine := by omega
  exact (qss_cons (qs_set 1 sc_law_is_prime.nd qe_int)
    (qss_cons (qs_for hp rfl (qi_range1 rfl nb.range_ (qa_cons qe_int qa_nil)) (qg_name 2 sc_law_is_prime.nd) (qss_cons (qs_if (qt_cmp c_gt (qe_mul (qe_var 1) (qe_var 1)) (qe_var 0)) (qss_one qs_break) qss_nil)
    (qss_cons (qs_if (qt_cmp (c_eq hu) (qe_mod (qe_callT ct_int rfl nb.int_ bT_int (qa_cons (qe_var 0) qa_nil)) (qe_var 1)) qe_int) (qss_one (qs_ret qe_bl)) qss_nil)
    (qss_one (qs_set 1 sc_law_is_prime.nd (qe_addF (qe_var 1) qe_int))))))
    (qss_one (qs_ret (qe_cmp c_gt (qe_var 0) qe_int)))))
/-! def _law_small -/
abbrev N_law_small : List Str := ["deal", "most", "p", "turn", "a", "menu"]
abbrev ps_law_small : List Str := ["deal", "most"]
theorem sc_law_small : FnScope N_law_small ps_law_small (defScope st_law_small) := ⟨rfl, rfl, rfl, by decide +kernel, rfl, by decide +kernel, by decide +kernel⟩
theorem b_law_is_prime_1 : Bds "_law_is_prime" "_law_is_prime" st_law_is_prime ["number"] 1 [] [0] := fun _ _ _ _ _ _ us ws h1 h2 => match us, ws, h1, h2 with | [_], [], _, _ => rfl
theorem b_law_of_2 : Bds "_law_of" "_law_of" st_law_of ["deal", "some"] 2 [] [0, 1] := fun _ _ _ _ _ _ us ws h1 h2 => match us, ws, h1, h2 with | [_, _], [], _, _ => rfl
def t_law_small_1 : ASt := (aAsg (aOp bAddF (aC (.int 7)) (aCall sp_law_any 2 0 [0, 1] (aCons (aVar 0) (aCons (aOp oSub (aVar 1) (aC (.int 6))) aNil)) aNil)) (agName 2))
def t_law_small_2 : ASt := aBreak
def t_law_small_3 : ASt := (aIf (aTruth (aCall sp_law_is_prime 1 0 [0] (aCons (aVar 2) aNil) aNil)) t_law_small_2 aNext)
def t_law_small_4 : ASt := (aAsg (aOp bAddF (aVar 2) (aC (.int 1))) (agName 2))
def t_law_small_5 : ASt := aSeq t_law_small_3 t_law_small_4
def t_law_small_6 : ASt := (aFor (aRng1 (aCons (aC (.int 80)) aNil)) (agName 3) t_law_small_5)
def t_law_small_7 : ASt := (aAsg (aLcF (aRng3 (aCons (aC (.int 6)) (aCons (aCB cMin (aCons (aVar 2) (aCons (aC (.int 400)) aNil))) (aCons (aC (.int 4)) aNil)))) (agName 4) (aTest (aOp oNe (aOp oMod (aCB cInt (aCons (aOp oSub (aOp oMul (aVar 4) (aVar 4)) (aC (.int 4))) aNil)) (aVar 2)) (aC (.int 0)))) (aVar 4) [4]) (agName 5))
def t_law_small_8 : ASt := (aAsg (aCall sp_law_of 2 0 [0, 1] (aCons (aVar 0) (aCons (aVar 5) aNil)) aNil) (agName 4))
def t_law_small_9 : ASt := (aRet (aTup (aCons (aVar 2) (aCons (aVar 4) (aCons (aOp bAddF (aC (.int 1)) (aCall sp_law_any 2 0 [0, 1] (aCons (aVar 0) (aCons (aOp oSub (aVar 2) (aC (.int 1))) aNil)) aNil)) aNil)))))
def t_law_small_10 : ASt := aSeq t_law_small_8 t_law_small_9
def t_law_small_11 : ASt := aSeq t_law_small_7 t_law_small_10
def t_law_small_12 : ASt := aSeq t_law_small_6 t_law_small_11
def t_law_small_13 : ASt := aSeq t_law_small_1 t_law_small_12
abbrev t_law_small : ASt := t_law_small_13
theorem d_law_small {P : Program} {w : World} {K : PySem.W.Frag} {mg : Str → Option Value} {base : Heap} {f : Addr} (nb : Nb mg) (c_law_any : Cal P w K mg base 1 "_law_any" st_law_any ps_law_any sp_law_any) (c_law_is_prime : Cal P w K mg base 1 "_law_is_prime" st_law_is_prime ps_law_is_prime sp_law_is_prime) (c_law_of : Cal P w K mg base 2 "_law_of" st_law_of ps_law_of sp_law_of) : DefD P w K mg base N_law_small "_law_small" st_law_small f 2 t_law_small := fun cdv A outer s H E B W hr hg tk hp => by
  have hu := hr.un
  replace hu : (BX P w K mg base N_law_small "_law_small" st_law_small f cdv A outer s H E).A.units + 64 < cLine := by omega
  exact (qss_cons (qs_set 2 sc_law_small.nd (qe_addF qe_int (qe_call c_law_any (hr.mono (by decide)) hg tk b_law_any_2 (qa_cons (qe_var 0) (qa_cons (qe_sub (qe_var 1) qe_int) qa_nil)) qk_nil)))
    (qss_cons (qs_for hp rfl (qi_range1 rfl nb.range_ (qa_cons qe_int qa_nil)) (qg_name 3 sc_law_small.nd) (qss_cons (qs_if (qt_truth (qe_call c_law_is_prime (hr.mono (by decide)) hg tk b_law_is_prime_1 (qa_cons (qe_var 2) qa_nil) qk_nil)) (qss_one qs_break) qss_nil)
    (qss_one (qs_set 2 sc_law_small.nd (qe_addF (qe_var 2) qe_int)))))
    (qss_cons (qs_setLcF 5 (own := [("a", 4)]) rfl sc_law_small.nd (qi_range3 rfl nb.range_ (qa_cons qe_int (qa_cons (qe_callB (cb_min rfl) rfl nb.min_ bB_min (qa_cons (qe_var 2) (qa_cons qe_int qa_nil))) (qa_cons qe_int qa_nil)))) (blkOk_by (N := N_law_small) (sc := defScope st_law_small) (by decide +kernel)) (fun _ h => h) (fun _ _ _ _ _ => (qg_name 4 sc_law_small.nd)) (fun _ _ _ _ _ => (qts_one (qt_cmp (c_ne hu) (qe_mod (qe_callT ct_int rfl nb.int_ bT_int (qa_cons (qe_sub (qe_mul (qe_var 4) (qe_var 4)) qe_int) qa_nil)) (qe_var 2)) qe_int))) (fun _ _ _ _ _ => (qe_var 4)))
    (qss_cons (qs_set 4 sc_law_small.nd (qe_call c_law_of (hr.mono (by decide)) hg tk b_law_of_2 (qa_cons (qe_var 0) (qa_cons (qe_var 5) qa_nil)) qk_nil))
    (qss_one (qs_ret (qe_tup (qa_cons (qe_var 2) (qa_cons (qe_var 4) (qa_cons (qe_addF qe_int (qe_call c_law_any (hr.mono (by decide)) hg tk b_law_any_2 (qa_cons (qe_var 0) (qa_cons (qe_sub (qe_var 2) qe_int) qa_nil)) qk_nil)) qa_nil))))))))))
/-! def _law_power -/
abbrev N_law_power : List Str := ["p", "number", "exponent", "found", "bits", "turn", "bit"]
abbrev ps_law_power : List Str := ["p", "number", "exponent"]
theorem sc_law_power : FnScope N_law_power ps_law_power (defScope st_law_power) := ⟨rfl, rfl, rfl, by decide +kernel, rfl, by decide +kernel, by decide +kernel⟩
def t_law_power_1 : ASt := (aAsg (aOp oMod (aCB cInt (aCons (aC (.int 1)) aNil)) (aVar 0)) (agName 3))
def t_law_power_2 : ASt := (aAsg (aLst aNil) (agName 4))
def t_law_power_3 : ASt := aBreak
def t_law_power_4 : ASt := (aIf (aTest (aOp oEq (aVar 2) (aC (.int 0)))) t_law_power_3 aNext)
def t_law_power_5 : ASt := (aDrop (aMt mAppend (aVar 4) (aCons (aOp oMod (aCB cInt (aCons (aVar 2) aNil)) (aC (.int 2))) aNil)))
def t_law_power_6 : ASt := (aAsg (aOp oDiv (aVar 2) (aC (.int 2))) (agName 2))
def t_law_power_7 : ASt := aSeq t_law_power_5 t_law_power_6
def t_law_power_8 : ASt := aSeq t_law_power_4 t_law_power_7
def t_law_power_9 : ASt := (aFor (aRng1 (aCons (aC (.int 300)) aNil)) (agName 5) t_law_power_8)
def t_law_power_10 : ASt := (aAsg (aOp oMod (aCB cInt (aCons (aOp oMul (aVar 3) (aVar 3)) aNil)) (aVar 0)) (agName 3))
def t_law_power_11 : ASt := (aAsg (aOp oMod (aCB cInt (aCons (aOp oMul (aVar 3) (aVar 1)) aNil)) (aVar 0)) (agName 3))
def t_law_power_12 : ASt := (aIf (aTest (aOp oEq (aVar 6) (aC (.int 1)))) t_law_power_11 aNext)
def t_law_power_13 : ASt := aSeq t_law_power_10 t_law_power_12
def t_law_power_14 : ASt := (aFor (aWalk (aRevF (aVar 4))) (agName 6) t_law_power_13)
def t_law_power_15 : ASt := (aRet (aVar 3))
def t_law_power_16 : ASt := aSeq t_law_power_14 t_law_power_15
def t_law_power_17 : ASt := aSeq t_law_power_9 t_law_power_16
def t_law_power_18 : ASt := aSeq t_law_power_2 t_law_power_17
def t_law_power_19 : ASt := aSeq t_law_power_1 t_law_power_18
abbrev t_law_power : ASt := t_law_power_19
theorem d_law_power {P : Program} {w : World} {K : PySem.W.Frag} {mg : Str → Option Value} {base : Heap} {f : Addr} (nb : Nb mg)  : DefD P w K mg base N_law_power "_law_power" st_law_power f 0 t_law_power := fun cdv A outer s H E B W hr hg tk hp => by
  have hu := hr.un
  replace hu : (BX P w K mg base N_law_power "_law_power" st_law_power f cdv A outer s H E).A.units + 64 < cLine := by omega
  exact (qss_cons (qs_set 3 sc_law_power.nd (qe_mod (qe_callT ct_int rfl nb.int_ bT_int (qa_cons qe_int qa_nil)) (qe_var 0)))
    (qss_cons (qs_set 4 sc_law_power.nd (qe_lst qa_nil))
    (qss_cons (qs_for hp rfl (qi_range1 rfl nb.range_ (qa_cons qe_int qa_nil)) (qg_name 5 sc_law_power.nd) (qss_cons (qs_if (qt_cmp (c_eq hu) (qe_var 2) qe_int) (qss_one qs_break) qss_nil)
    (qss_cons (qs_expr (qe_append (qe_var 4) (qa_cons (qe_mod (qe_callT ct_int rfl nb.int_ bT_int (qa_cons (qe_var 2) qa_nil)) qe_int) qa_nil)))
    (qss_one (qs_set 2 sc_law_power.nd (qe_fdiv (qe_var 2) qe_int))))))
    (qss_cons (qs_for hp rfl (qi_seq (qe_revF (qe_var 4))) (qg_name 6 sc_law_power.nd) (qss_cons (qs_set 3 sc_law_power.nd (qe_mod (qe_callT ct_int rfl nb.int_ bT_int (qa_cons (qe_mul (qe_var 3) (qe_var 3)) qa_nil)) (qe_var 0)))
    (qss_one (qs_if (qt_cmp (c_eq hu) (qe_var 6) qe_int) (qss_one (qs_set 3 sc_law_power.nd (qe_mod (qe_callT ct_int rfl nb.int_ bT_int (qa_cons (qe_mul (qe_var 3) (qe_var 1)) qa_nil)) (qe_var 0)))) qss_nil))))
    (qss_one (qs_ret (qe_var 3)))))))
/-! def law -/
abbrev N_law : List Str := ["script", "deal", "p", "great", "turn", "number", "exponent", "modulus", "told", "some", "cube"]
abbrev ps_law : List Str := ["script"]
theorem sc_law : FnScope N_law ps_law (defScope st_law) := ⟨rfl, rfl, rfl, by decide +kernel, rfl, by decide +kernel, by decide +kernel⟩
theorem b_law_deal_2 : Bds "_law_deal" "_law_deal" st_law_deal ["script", "base"] 2 [] [0, 1] := fun _ _ _ _ _ _ us ws h1 h2 => match us, ws, h1, h2 with | [_, _], [], _, _ => rfl
theorem b_law_small_2 : Bds "_law_small" "_law_small" st_law_small ["deal", "most"] 2 [] [0, 1] := fun _ _ _ _ _ _ us ws h1 h2 => match us, ws, h1, h2 with | [_, _], [], _, _ => rfl
theorem b_power_3 : Bds "power" "power" st_power ["p", "number", "exponent"] 3 [] [0, 1, 2] := fun _ _ _ _ _ _ us ws h1 h2 => match us, ws, h1, h2 with | [_, _, _], [], _, _ => rfl
theorem b_law_power_3 : Bds "_law_power" "_law_power" st_law_power ["p", "number", "exponent"] 3 [] [0, 1, 2] := fun _ _ _ _ _ _ us ws h1 h2 => match us, ws, h1, h2 with | [_, _, _], [], _, _ => rfl
theorem b_inverse_2 : Bds "inverse" "inverse" st_inverse ["p", "number"] 2 [] [0, 1] := fun _ _ _ _ _ _ us ws h1 h2 => match us, ws, h1, h2 with | [_, _], [], _, _ => rfl
theorem b_is_prime_0_number : Bds "is_prime" "is_prime" st_is_prime ["number"] 0 ["number"] [0] := fun _ _ _ _ _ _ us ws h1 h2 => match us, ws, h1, h2 with | [], [_], _, _ => rfl
theorem b_inverse_0_number_p : Bds "inverse" "inverse" st_inverse ["p", "number"] 0 ["number", "p"] [1, 0] := fun _ _ _ _ _ _ us ws h1 h2 => match us, ws, h1, h2 with | [], [_, _], _, _ => rfl
theorem b_power_0_exponent_number_p : Bds "power" "power" st_power ["p", "number", "exponent"] 0 ["exponent", "number", "p"] [2, 1, 0] := fun _ _ _ _ _ _ us ws h1 h2 => match us, ws, h1, h2 with | [], [_, _, _], _, _ => rfl
def t_law_1 : ASt := (aAsg (aCall sp_law_deal 2 0 [0, 1] (aCons (aVar 0) (aCons (aC (.int 6)) aNil)) aNil) (agName 1))
def t_law_2 : ASt := (aPar 2 3 (aCons (aOp bIx (aCall sp_law_small 2 0 [0, 1] (aCons (aVar 1) (aCons (aC (.int 32700)) aNil)) aNil) (aC (.int 0))) (aCons (aOp oSub (aOp oShl (aC (.int 1)) (aC (.int 255))) (aC (.int 19))) aNil)))
def t_law_3 : ASt := (aAsg (aCall sp_law_of 2 0 [0, 1] (aCons (aVar 1) (aCons (aLstF (aCons (aC (.int 0)) (aCons (aC (.int 1)) (aCons (aVar 2) (aCons (aCall sp_law_any 2 0 [0, 1] (aCons (aVar 1) (aCons (aVar 2) aNil)) aNil) (aCons (aCall sp_law_any 2 0 [0, 1] (aCons (aVar 1) (aCons (aOp oPow (aC (.int 10)) (aC (.int 9))) aNil)) aNil) aNil)))))) aNil)) aNil) (agName 5))
def t_law_4 : ASt := (aAsg (aCall sp_law_of 2 0 [0, 1] (aCons (aVar 1) (aCons (aLstF (aCons (aC (.int 0)) (aCons (aC (.int 1)) (aCons (aC (.int 2)) (aCons (aOp oSub (aVar 2) (aC (.int 2))) (aCons (aCall sp_law_any 2 0 [0, 1] (aCons (aVar 1) (aCons (aOp oPow (aC (.int 10)) (aC (.int 6))) aNil)) aNil) aNil)))))) aNil)) aNil) (agName 6))
def t_law_5 : ASt := (aAsg (aCall sp_law_of 2 0 [0, 1] (aCons (aVar 1) (aCons (aLstF (aCons (aVar 2) (aCons (aVar 2) (aCons (aC (.int 2)) (aCons (aOp bAddF (aC (.int 2)) (aCall sp_law_any 2 0 [0, 1] (aCons (aVar 1) (aCons (aC (.int 60000)) aNil)) aNil)) aNil))))) aNil)) aNil) (agName 7))
def t_law_6 : ASt := (aRet (aC (.bl false)))
def t_law_7 : ASt := (aIf (aTest (aOp oNe (aCB cRepr (aCons (aCall sp_power 3 0 [0, 1, 2] (aCons (aVar 7) (aCons (aVar 5) (aCons (aVar 6) aNil))) aNil) aNil)) (aCB cRepr (aCons (aCall sp_law_power 3 0 [0, 1, 2] (aCons (aVar 7) (aCons (aVar 5) (aCons (aVar 6) aNil))) aNil) aNil)))) t_law_6 aNext)
def t_law_8 : ASt := (aAsg (aCall sp_inverse 2 0 [0, 1] (aCons (aVar 2) (aCons (aVar 5) aNil)) aNil) (agName 8))
def t_law_9 : ASt := (aRet (aC (.bl false)))
def t_law_10 : ASt := (aIf (aTest (aOp oNe (aCB cRepr (aCons (aVar 8) aNil)) (aC (.str "0")))) t_law_9 aNext)
def t_law_11 : ASt := (aRet (aC (.bl false)))
def t_law_12 : ASt := (aIf (aOrT (aNotT (aTruth (aCB cIsi (aCons (aVar 8) (aCons (aC (.ty "int")) aNil))))) (aOrT (aTruth (aCB cIsi (aCons (aVar 8) (aCons (aC (.ty "bool")) aNil)))) (aOrT (aNotT (aTest (aChain oLt oLt (aC (.int 0)) (aVar 8) (aVar 2)))) (aTest (aOp oNe (aOp oMod (aCB cInt (aCons (aOp oMul (aVar 8) (aVar 5)) aNil)) (aVar 2)) (aC (.int 1))))))) t_law_11 aNext)
def t_law_13 : ASt := (aIf (aTest (aOp oEq (aOp oMod (aCB cInt (aCons (aVar 5) aNil)) (aVar 2)) (aC (.int 0)))) t_law_10 t_law_12)
def t_law_14 : ASt := (aRet (aC (.bl false)))
def t_law_15 : ASt := (aIf (aTest (aOp oNe (aCB cRepr (aCons (aVar 8) aNil)) (aCB cRepr (aCons (aCall sp_power 3 0 [0, 1, 2] (aCons (aVar 2) (aCons (aVar 5) (aCons (aOp oSub (aVar 2) (aC (.int 2))) aNil))) aNil) aNil)))) t_law_14 aNext)
def t_law_16 : ASt := (aAsg (aCall sp_law_of 2 0 [0, 1] (aCons (aVar 1) (aCons (aLstF (aCons (aCall sp_law_any 2 0 [0, 1] (aCons (aVar 1) (aCons (aC (.int 12)) aNil)) aNil) (aCons (aC (.int 65535)) (aCons (aC (.int 65521)) (aCons (aVar 2) (aCons (aOp bAddF (aVar 2) (aC (.int 2))) (aCons (aCall sp_law_any 2 0 [0, 1] (aCons (aVar 1) (aCons (aC (.int 65536)) aNil)) aNil) (aCons (aCall sp_law_any 2 0 [0, 1] (aCons (aVar 1) (aCons (aC (.int 262144)) aNil)) aNil) (aCons (aC (.int 262139)) (aCons (aOp oMul (aC (.int 511)) (aC (.int 511))) aNil)))))))))) aNil)) aNil) (agName 9))
def t_law_17 : ASt := (aRet (aC (.bl false)))
def t_law_18 : ASt := (aIf (aTest (aOp oNe (aCB cRepr (aCons (aCall sp_is_prime 0 1 [0] aNil (aCons (aVar 9) aNil)) aNil)) (aCB cRepr (aCons (aCall sp_law_is_prime 1 0 [0] (aCons (aVar 9) aNil) aNil) aNil)))) t_law_17 aNext)
def t_law_19 : ASt := aSeq t_law_16 t_law_18
def t_law_20 : ASt := aSeq t_law_15 t_law_19
def t_law_21 : ASt := aSeq t_law_13 t_law_20
def t_law_22 : ASt := aSeq t_law_8 t_law_21
def t_law_23 : ASt := aSeq t_law_7 t_law_22
def t_law_24 : ASt := aSeq t_law_5 t_law_23
def t_law_25 : ASt := aSeq t_law_4 t_law_24
def t_law_26 : ASt := aSeq t_law_3 t_law_25
def t_law_27 : ASt := (aFor (aRng1 (aCons (aC (.int 4)) aNil)) (agName 4) t_law_26)
def t_law_28 : ASt := (aAsg (aOp bAddF (aC (.int 1)) (aCall sp_law_any 2 0 [0, 1] (aCons (aVar 1) (aCons (aOp oPow (aC (.int 10)) (aC (.int 40))) aNil)) aNil)) (agName 5))
def t_law_29 : ASt := (aAsg (aCall sp_inverse 0 2 [1, 0] aNil (aCons (aVar 5) (aCons (aVar 3) aNil))) (agName 8))
def t_law_30 : ASt := (aAsg (aCall sp_power 0 3 [2, 1, 0] aNil (aCons (aC (.int 3)) (aCons (aVar 5) (aCons (aVar 3) aNil)))) (agName 10))
def t_law_31 : ASt := (aRet (aAndV (aChain oLt oLt (aC (.int 0)) (aVar 8) (aVar 3)) (aAndV (aOp oEq (aOp oMod (aCB cInt (aCons (aOp oMul (aVar 8) (aVar 5)) aNil)) (aVar 3)) (aC (.int 1))) (aOp oEq (aVar 10) (aOp oMod (aCB cInt (aCons (aOp oMul (aOp oMul (aVar 5) (aVar 5)) (aVar 5)) aNil)) (aVar 3))))))
def t_law_32 : ASt := aSeq t_law_30 t_law_31
def t_law_33 : ASt := aSeq t_law_29 t_law_32
def t_law_34 : ASt := aSeq t_law_28 t_law_33
def t_law_35 : ASt := aSeq t_law_27 t_law_34
def t_law_36 : ASt := aSeq t_law_2 t_law_35
def t_law_37 : ASt := aSeq t_law_1 t_law_36
abbrev t_law : ASt := t_law_37
theorem d_law {P : Program} {w : World} {K : PySem.W.Frag} {mg : Str → Option Value} {base : Heap} {f : Addr} (nb : Nb mg) (c_law_deal : Cal P w K mg base 1 "_law_deal" st_law_deal ps_law_deal sp_law_deal) (c_law_small : Cal P w K mg base 3 "_law_small" st_law_small ps_law_small sp_law_small) (c_law_of : Cal P w K mg base 2 "_law_of" st_law_of ps_law_of sp_law_of) (c_law_any : Cal P w K mg base 1 "_law_any" st_law_any ps_law_any sp_law_any) (c_power : Cal P w K mg base 1 "power" st_power ps_power sp_power) (c_law_power : Cal P w K mg base 1 "_law_power" st_law_power ps_law_power sp_law_power) (c_inverse : Cal P w K mg base 1 "inverse" st_inverse ps_inverse sp_inverse) (c_is_prime : Cal P w K mg base 1 "is_prime" st_is_prime ps_is_prime sp_is_prime) (c_law_is_prime : Cal P w K mg base 1 "_law_is_prime" st_law_is_prime ps_law_is_prime sp_law_is_prime) : DefD P w K mg base N_law "law" st_law f 3 t_law := fun cdv A outer s H E B W hr hg tk hp => by
  have hu := hr.un
  replace hu : (BX P w K mg base N_law "law" st_law f cdv A outer s H E).A.units + 64 < cLine := by omega
  exact (qss_cons (qs_set 1 sc_law.nd (qe_call c_law_deal (hr.mono (by decide)) hg tk b_law_deal_2 (qa_cons (qe_var 0) (qa_cons qe_int qa_nil)) qk_nil))
    (qss_cons (qs_par 2 3 rfl sc_law.nd (qa_cons (qe_ix (qe_call c_law_small (hr.mono (by decide)) hg tk b_law_small_2 (qa_cons (qe_var 1) (qa_cons qe_int qa_nil)) qk_nil) qe_int) (qa_cons (qe_sub (qe_shl qe_int qe_int) qe_int) qa_nil)))
    (qss_cons (qs_for hp rfl (qi_range1 rfl nb.range_ (qa_cons qe_int qa_nil)) (qg_name 4 sc_law.nd) (qss_cons (qs_set 5 sc_law.nd (qe_call c_law_of (hr.mono (by decide)) hg tk b_law_of_2 (qa_cons (qe_var 1) (qa_cons (qe_lstF (qa_cons qe_int (qa_cons qe_int (qa_cons (qe_var 2) (qa_cons (qe_call c_law_any (hr.mono (by decide)) hg tk b_law_any_2 (qa_cons (qe_var 1) (qa_cons (qe_var 2) qa_nil)) qk_nil) (qa_cons (qe_call c_law_any (hr.mono (by decide)) hg tk b_law_any_2 (qa_cons (qe_var 1) (qa_cons (qe_pow qe_int qe_int) qa_nil)) qk_nil) qa_nil)))))) qa_nil)) qk_nil))
    (qss_cons (qs_set 6 sc_law.nd (qe_call c_law_of (hr.mono (by decide)) hg tk b_law_of_2 (qa_cons (qe_var 1) (qa_cons (qe_lstF (qa_cons qe_int (qa_cons qe_int (qa_cons qe_int (qa_cons (qe_sub (qe_var 2) qe_int) (qa_cons (qe_call c_law_any (hr.mono (by decide)) hg tk b_law_any_2 (qa_cons (qe_var 1) (qa_cons (qe_pow qe_int qe_int) qa_nil)) qk_nil) qa_nil)))))) qa_nil)) qk_nil))
    (qss_cons (qs_set 7 sc_law.nd (qe_call c_law_of (hr.mono (by decide)) hg tk b_law_of_2 (qa_cons (qe_var 1) (qa_cons (qe_lstF (qa_cons (qe_var 2) (qa_cons (qe_var 2) (qa_cons qe_int (qa_cons (qe_addF qe_int (qe_call c_law_any (hr.mono (by decide)) hg tk b_law_any_2 (qa_cons (qe_var 1) (qa_cons qe_int qa_nil)) qk_nil)) qa_nil))))) qa_nil)) qk_nil))
    (qss_cons (qs_if (qt_cmp (c_ne hu) (qe_callB (cb_repr hu hg) rfl nb.repr_ bB_repr (qa_cons (qe_call c_power (hr.mono (by decide)) hg tk b_power_3 (qa_cons (qe_var 7) (qa_cons (qe_var 5) (qa_cons (qe_var 6) qa_nil))) qk_nil) qa_nil)) (qe_callB (cb_repr hu hg) rfl nb.repr_ bB_repr (qa_cons (qe_call c_law_power (hr.mono (by decide)) hg tk b_law_power_3 (qa_cons (qe_var 7) (qa_cons (qe_var 5) (qa_cons (qe_var 6) qa_nil))) qk_nil) qa_nil))) (qss_one (qs_ret qe_bl)) qss_nil)
    (qss_cons (qs_set 8 sc_law.nd (qe_call c_inverse (hr.mono (by decide)) hg tk b_inverse_2 (qa_cons (qe_var 2) (qa_cons (qe_var 5) qa_nil)) qk_nil))
    (qss_cons (qs_if (qt_cmp (c_eq hu) (qe_mod (qe_callT ct_int rfl nb.int_ bT_int (qa_cons (qe_var 5) qa_nil)) (qe_var 2)) qe_int) (qss_one (qs_if (qt_cmp (c_ne hu) (qe_callB (cb_repr hu hg) rfl nb.repr_ bB_repr (qa_cons (qe_var 8) qa_nil)) qe_str) (qss_one (qs_ret qe_bl)) qss_nil)) (qss_one (qs_if (qt_w (qw_or (qt_not (qt_truth (qe_callB cb_isi rfl nb.isinstance_ bB_isinstance (qa_cons (qe_var 8) (qa_cons (qe_bltn rfl nb.int_ bT_int) qa_nil))))) (qw_or (qt_truth (qe_callB cb_isi rfl nb.isinstance_ bB_isinstance (qa_cons (qe_var 8) (qa_cons (qe_bltn rfl nb.bool_ bT_bool) qa_nil)))) (qw_or (qt_not (qt_chain c_lt c_lt qe_int (qe_var 8) (qe_var 2))) (qw_or1 (qt_cmp (c_ne hu) (qe_mod (qe_callT ct_int rfl nb.int_ bT_int (qa_cons (qe_mul (qe_var 8) (qe_var 5)) qa_nil)) (qe_var 2)) qe_int)))))) (qss_one (qs_ret qe_bl)) qss_nil)))
    (qss_cons (qs_if (qt_cmp (c_ne hu) (qe_callB (cb_repr hu hg) rfl nb.repr_ bB_repr (qa_cons (qe_var 8) qa_nil)) (qe_callB (cb_repr hu hg) rfl nb.repr_ bB_repr (qa_cons (qe_call c_power (hr.mono (by decide)) hg tk b_power_3 (qa_cons (qe_var 2) (qa_cons (qe_var 5) (qa_cons (qe_sub (qe_var 2) qe_int) qa_nil))) qk_nil) qa_nil))) (qss_one (qs_ret qe_bl)) qss_nil)
    (qss_cons (qs_set 9 sc_law.nd (qe_call c_law_of (hr.mono (by decide)) hg tk b_law_of_2 (qa_cons (qe_var 1) (qa_cons (qe_lstF (qa_cons (qe_call c_law_any (hr.mono (by decide)) hg tk b_law_any_2 (qa_cons (qe_var 1) (qa_cons qe_int qa_nil)) qk_nil) (qa_cons qe_int (qa_cons qe_int (qa_cons (qe_var 2) (qa_cons (qe_addF (qe_var 2) qe_int) (qa_cons (qe_call c_law_any (hr.mono (by decide)) hg tk b_law_any_2 (qa_cons (qe_var 1) (qa_cons qe_int qa_nil)) qk_nil) (qa_cons (qe_call c_law_any (hr.mono (by decide)) hg tk b_law_any_2 (qa_cons (qe_var 1) (qa_cons qe_int qa_nil)) qk_nil) (qa_cons qe_int (qa_cons (qe_mul qe_int qe_int) qa_nil)))))))))) qa_nil)) qk_nil))
    (qss_one (qs_if (qt_cmp (c_ne hu) (qe_callB (cb_repr hu hg) rfl nb.repr_ bB_repr (qa_cons (qe_call0 c_is_prime (hr.mono (by decide)) hg tk b_is_prime_0_number (qk_cons (qe_var 9) qk_nil)) qa_nil)) (qe_callB (cb_repr hu hg) rfl nb.repr_ bB_repr (qa_cons (qe_call c_law_is_prime (hr.mono (by decide)) hg tk b_law_is_prime_1 (qa_cons (qe_var 9) qa_nil) qk_nil) qa_nil))) (qss_one (qs_ret qe_bl)) qss_nil)))))))))))
    (qss_cons (qs_set 5 sc_law.nd (qe_addF qe_int (qe_call c_law_any (hr.mono (by decide)) hg tk b_law_any_2 (qa_cons (qe_var 1) (qa_cons (qe_pow qe_int qe_int) qa_nil)) qk_nil)))
    (qss_cons (qs_set 8 sc_law.nd (qe_call0 c_inverse (hr.mono (by decide)) hg tk b_inverse_0_number_p (qk_cons (qe_var 5) (qk_cons (qe_var 3) qk_nil))))
    (qss_cons (qs_set 10 sc_law.nd (qe_call0 c_power (hr.mono (by decide)) hg tk b_power_0_exponent_number_p (qk_cons qe_int (qk_cons (qe_var 5) (qk_cons (qe_var 3) qk_nil)))))
    (qss_one (qs_ret (qe_andV (qe_chain c_lt c_lt qe_int (qe_var 8) (qe_var 3)) (qe_andV (qe_cmp (c_eq hu) (qe_mod (qe_callT ct_int rfl nb.int_ bT_int (qa_cons (qe_mul (qe_var 8) (qe_var 5)) qa_nil)) (qe_var 3)) qe_int) (qe_one (qe_cmp (c_eq hu) (qe_var 10) (qe_mod (qe_callT ct_int rfl nb.int_ bT_int (qa_cons (qe_mul (qe_mul (qe_var 5) (qe_var 5)) (qe_var 5)) qa_nil)) (qe_var 3))))))))))))))
end K06
namespace K06
open PySem PySem.Spec L2 HA
theorem nx_of {D : AEn} {σ : AS} {M : Mem} (h : D.nx σ M) : aNext D σ M := h
theorem mul_cong {p a b c d : Int} (h : a % p = b % p) (k : c % p = d % p) : a * c % p = b * d % p := by
  rw [Int.mul_emod, h, k, ← Int.mul_emod]
theorem pow_cong {p a b : Int} (h : a % p = b % p) : ∀ k : Nat, a ^ k % p = b ^ k % p
  | 0 => by rw [Int.pow_zero, Int.pow_zero]
  | k + 1 => by rw [Int.pow_succ, Int.pow_succ]; exact mul_cong (pow_cong h k) h
theorem eB : B300 = 2 ^ 300 := by unfold B300; decide
theorem na300 {i : Int} (h0 : 0 ≤ i) (h : i < B300) : i.natAbs < 2 ^ 300 := na_lt h0 (by rw [← eB]; exact h)
theorem mulB {i j : Int} (h0 : 0 ≤ i) (h : i < B300) (k0 : 0 ≤ j) (k : j < B300) : HA.MulOk i j := MulOk.of (na300 h0 h) (na300 k0 k) (by decide)
theorem sq_step {p f s r : Int} {e' : Nat} (h : f * s ^ e' % p = r) (ho : e' % 2 = 1) : f * s % p * (s * s % p) ^ (e' / 2) % p = r := by
  rw [← h]
  have e1 : e' = 2 * (e' / 2) + 1 := by omega
  have e2 : f * s ^ e' = (f * s) * (s * s) ^ (e' / 2) := by
    conv => lhs; rw [e1, Int.pow_succ, Int.pow_mul, Int.pow_succ, Int.pow_succ, Int.pow_zero, Int.one_mul]
    generalize (s * s) ^ (e' / 2) = w
    grind
  rw [e2]
  exact mul_cong (Int.emod_emod_of_dvd _ (Int.dvd_refl p)) (pow_cong (Int.emod_emod_of_dvd _ (Int.dvd_refl p)) _)
theorem sq_even {p f s r : Int} {e' : Nat} (h : f * s ^ e' % p = r) (ho : e' % 2 = 0) : f * (s * s % p) ^ (e' / 2) % p = r := by
  rw [← h]
  have e1 : e' = 2 * (e' / 2) := by omega
  have e2 : f * s ^ e' = f * (s * s) ^ (e' / 2) := by
    conv => lhs; rw [e1, Int.pow_mul, Int.pow_succ, Int.pow_succ, Int.pow_zero, Int.one_mul]
  rw [e2]
  exact mul_cong rfl (pow_cong (Int.emod_emod_of_dvd _ (Int.dvd_refl p)) _)
theorem v_power : ∀ ds M Q E, sp_power ds M Q E → t_power (pureE M Q E) (startA N_power ds) M := by
  intro ds M Q E ⟨p, n, e, h, ⟨hp, hB⟩, hn, q⟩
  subst h
  have mp : ∀ i, HA.ModOk i p := fun i => by show 0 < p; omega
  have em : ∀ i : Int, 0 ≤ i % p ∧ i % p < p := fun i => ⟨Int.emod_nonneg _ (by omega), Int.emod_lt_of_pos _ (by omega)⟩
  refine ⟨mp _, mp _, ?_⟩
  refine ⟨fun m σ M' => M' = M ∧ ∃ (e' : Nat) (f s : Int), m = e' ∧ (0 ≤ f ∧ f < p) ∧ (0 ≤ s ∧ s < p) ∧ f * s ^ e' % p = n ^ e % p ∧ σ = [some (.int p), some (.int n), some (.int e'), some (.int f), some (.int s)], ⟨e, rfl, e, 1 % p, n % p, rfl, em _, em _, ?_, rfl⟩, ?_⟩
  · have := mul_cong (p := p) (a := 1 % p) (b := 1) (c := (n % p) ^ e) (d := n ^ e) (Int.emod_emod_of_dvd _ (Int.dvd_refl p)) (pow_cong (Int.emod_emod_of_dvd _ (Int.dvd_refl p)) e)
    rw [Int.one_mul] at this
    exact this
  rintro m σ M' ⟨hM, e', f, s, hm, hf, hs, hi, hσ⟩
  subst hm
  subst hσ
  subst hM
  refine ⟨fun h => ?_, fun h => ?_⟩
  · have h0 : (0 : Int) < (m : Int) := of_decide_eq_true h
    have es : ((m : Int)) / 2 ^ (1 : Int).toNat = ((m / 2 : Nat) : Int) := by
      show (m : Int) / 2 ^ 1 = _
      omega
    have e1 : Builtin.bitAnd (m : Int) 1 = (m : Int) % 2 := PyProof.Rows.bitAnd_m1 _
    have go : ∀ (D' : AEn) (f' : Int), 0 ≤ f' ∧ f' < p → f' * (s * s % p) ^ (m / 2) % p = n ^ e % p → D'.nx [some (.int p), some (.int n), some (.int ((m / 2 : Nat) : Int)), some (.int f'), some (.int (s * s % p))] M' → t_power_6 D' [some (.int p), some (.int n), some (.int m), some (.int f'), some (.int s)] M' := fun D' f' hf' hi' hD => by
      refine ⟨mulB hs.1 (by omega) hs.1 (by omega), mp _, (by show (0 : Int) ≤ 1; decide), ?_⟩
      rw [← es] at hD
      exact hD
    have nx : ∀ f' : Int, 0 ≤ f' ∧ f' < p → f' * (s * s % p) ^ (m / 2) % p = n ^ e % p → ∃ m', m' < m ∧ M' = M' ∧ ∃ (e2 : Nat) (f2 s2 : Int), m' = e2 ∧ (0 ≤ f2 ∧ f2 < p) ∧ (0 ≤ s2 ∧ s2 < p) ∧ f2 * s2 ^ e2 % p = n ^ e % p ∧ [some (D.int p), some (D.int n), some (D.int ((m / 2 : Nat) : Int)), some (D.int f'), some (D.int (s * s % p))] = [some (.int p), some (.int n), some (.int e2), some (.int f2), some (.int s2)] := fun f' hf' hi' =>
      ⟨m / 2, by omega, rfl, m / 2, f', s * s % p, rfl, hf', em _, hi', rfl⟩
    refine ⟨fun h2 => ⟨mulB hf.1 (by omega) hs.1 (by omega), mp _, go _ _ (em _) (sq_step hi ?_) (nx _ (em _) (sq_step hi ?_))⟩, fun h2 => nx_of (go _ f hf (sq_even hi ?_) (nx f hf (sq_even hi ?_)))⟩
    · have h2 : (Builtin.bitAnd (m : Int) 1 != 0) = true := h2
      rw [e1] at h2
      have : (m : Int) % 2 ≠ 0 := by simpa using h2
      omega
    · have h2 : (Builtin.bitAnd (m : Int) 1 != 0) = true := h2
      rw [e1] at h2
      have : (m : Int) % 2 ≠ 0 := by simpa using h2
      omega
    · have h2 : (Builtin.bitAnd (m : Int) 1 != 0) = false := h2
      rw [e1] at h2
      have : (m : Int) % 2 = 0 := by simpa using h2
      omega
    · have h2 : (Builtin.bitAnd (m : Int) 1 != 0) = false := h2
      rw [e1] at h2
      have : (m : Int) % 2 = 0 := by simpa using h2
      omega
  · have h0 : ¬ (0 : Int) < (m : Int) := of_decide_eq_false h
    have : m = 0 := by omega
    subst this
    refine ⟨.refl _, ?_⟩
    rw [Int.pow_zero, Int.mul_one, Int.emod_eq_of_lt hf.1 hf.2] at hi
    rw [hi]
    exact q
end K06
namespace K06
open PySem PySem.Spec L2 HA
structure Eu (p n lo hi ah he : Int) : Prop where
  l0 : 0 ≤ lo
  lh : lo < hi
  h1 : 1 < hi
  hp : hi ≤ p
  a : p ∣ ah * n - lo
  b : p ∣ he * n - hi
  c : (n % p = 0 ∧ lo = 0) ∨ (n % p ≠ 0 ∧ ∀ d : Int, d ∣ lo → d ∣ hi → d ∣ 1)
  sz : (ah.natAbs : Int) * hi + (he.natAbs : Int) * lo ≤ p
theorem Eu.start {p n : Int} (hp : PN.Pr p.toNat) : Eu p n (n % p) p 1 0 := by
  have p2 := hp.1
  have m0 := Int.emod_nonneg n (show p ≠ 0 by omega)
  have m1 := Int.emod_lt_of_pos n (show 0 < p by omega)
  refine ⟨m0, m1, by omega, Int.le_refl p, ?_, ?_, ?_, by simp⟩
  · exact ⟨n / p, by have := Int.emod_add_mul_ediv n p; omega⟩
  · exact ⟨-1, by omega⟩
  · by_cases hz : n % p = 0
    · exact .inl ⟨hz, hz⟩
    · refine .inr ⟨hz, fun d h1 h2 => ?_⟩
      have h2' : d.natAbs ∣ p.toNat := by
        have := Int.natAbs_dvd_natAbs.mpr h2
        have e : p.natAbs = p.toNat := by omega
        rwa [e] at this
      rcases hp.2 _ h2' with e | e
      · exact Int.natAbs_dvd_natAbs.mp (by rw [e]; exact Nat.dvd_refl 1)
      · exfalso
        have h3 := Int.natAbs_dvd_natAbs.mpr h1
        rw [e] at h3
        have := Nat.le_of_dvd (by omega) h3
        omega
theorem Eu.ah_le {p n lo hi ah he : Int} (h : Eu p n lo hi ah he) : (ah.natAbs : Int) ≤ p := by
  have s := h.sz
  have a0 : (0 : Int) ≤ (he.natAbs : Int) * lo := Int.mul_nonneg (by omega) h.l0
  have a1 : (ah.natAbs : Int) * 1 ≤ (ah.natAbs : Int) * hi := Int.mul_le_mul_of_nonneg_left (by have := h.h1; omega) (by omega)
  omega
theorem Eu.step {p n lo hi ah he : Int} (h : Eu p n lo hi ah he) (hl : 1 < lo) : Eu p n (hi - hi / lo * lo) lo (he - hi / lo * ah) ah ∧ hi - hi / lo * lo < lo ∧ 0 ≤ hi / lo ∧ hi / lo ≤ hi := by
  have e := Int.emod_add_mul_ediv hi lo
  have m0 := Int.emod_nonneg hi (show lo ≠ 0 by omega)
  have m1 := Int.emod_lt_of_pos hi (show 0 < lo by omega)
  have t0 : 0 ≤ hi / lo := Int.ediv_nonneg (by have := h.h1; omega) (by omega)
  have t1 : hi / lo ≤ hi := Int.ediv_le_self lo (by have := h.h1; omega)
  obtain ⟨u, hu⟩ := h.a
  obtain ⟨v, hv⟩ := h.b
  have cc := h.c
  have sz := h.sz
  have lh := h.lh
  have hp := h.hp
  generalize hi / lo = t at *
  generalize hi % lo = w at *
  have ew : hi - t * lo = w := by rw [Int.mul_comm]; omega
  rw [ew]
  refine ⟨⟨m0, m1, hl, by omega, ?_, ⟨u, hu⟩, ?_, ?_⟩, m1, t0, t1⟩
  · exact ⟨v - t * u, by grind⟩
  · rcases cc with ⟨_, c⟩ | ⟨c1, c2⟩
    · omega
    · refine .inr ⟨c1, fun d h1 h2 => c2 d h2 ?_⟩
      have : hi = w + t * lo := by omega
      rw [this]
      exact Int.dvd_add h1 (Int.dvd_trans h2 (Int.dvd_mul_left t lo))
  · have n1 : ((he - t * ah).natAbs : Int) ≤ (he.natAbs : Int) + t * (ah.natAbs : Int) := by
      have a1 := Int.natAbs_sub_le he (t * ah)
      have a2 : ((t * ah).natAbs : Int) = t * (ah.natAbs : Int) := by
        rw [Int.natAbs_mul, Int.natCast_mul]
        congr 1; omega
      omega
    have n2 : ((he - t * ah).natAbs : Int) * lo ≤ ((he.natAbs : Int) + t * (ah.natAbs : Int)) * lo := Int.mul_le_mul_of_nonneg_right n1 (by omega)
    have n3 : ((he.natAbs : Int) + t * (ah.natAbs : Int)) * lo + (ah.natAbs : Int) * w = (ah.natAbs : Int) * hi + (he.natAbs : Int) * lo := by
      rw [← ew]; grind
    omega
theorem Eu.done1 {p n hi ah he : Int} (h : Eu p n 1 hi ah he) : Inv p n (ah % p) := by
  have p1 : 1 < p := by have := h.h1; have := h.hp; omega
  have c : n % p ≠ 0 := by
    rcases h.c with ⟨_, c⟩ | ⟨c, _⟩
    · omega
    · exact c
  have e : ah % p * n % p = 1 := by
    rw [Int.mul_emod, Int.emod_emod_of_dvd _ (Int.dvd_refl p), ← Int.mul_emod]
    obtain ⟨u, hu⟩ := h.a
    have : ah * n = 1 + p * u := by omega
    rw [this, Int.add_mul_emod_self_left, Int.emod_eq_of_lt (by decide) p1]
  refine ⟨fun z => absurd z c, fun _ => ⟨⟨?_, Int.emod_lt_of_pos _ (by omega)⟩, e⟩⟩
  have m0 := Int.emod_nonneg ah (show p ≠ 0 by omega)
  by_cases z : ah % p = 0
  · rw [z] at e; simp at e
  · omega
theorem Eu.done0 {p n hi ah he : Int} (h : Eu p n 0 hi ah he) : Inv p n 0 := by
  have h1 := h.h1
  rcases h.c with ⟨c, _⟩ | ⟨_, c⟩
  · exact ⟨fun _ => rfl, fun z => absurd c z⟩
  · have := c hi (Int.dvd_zero hi) (Int.dvd_refl hi)
    have := Int.le_of_dvd (by decide) this
    omega
theorem v_inverse : ∀ ds M Q E, sp_inverse ds M Q E → t_inverse (pureE M Q E) (startA N_inverse ds) M := by
  intro ds M Q E ⟨p, n, h, ⟨hp, hB⟩, hn, q⟩
  subst h
  have p2 := hp.1
  have mp : ∀ i, HA.ModOk i p := fun i => by show 0 < p; omega
  refine ⟨mp _, sz_le (by simp), rfl, ?_⟩
  refine ⟨fun m σ M' => M' = M ∧ ∃ (lo hi ah he : Int) (o : Option D), m = lo.toNat ∧ Eu p n lo hi ah he ∧ σ = [some (.int p), some (.int n), some (.int lo), some (.int hi), some (.int ah), some (.int he), o], ⟨_, rfl, n % p, p, 1, 0, none, rfl, Eu.start hp, rfl⟩, ?_⟩
  rintro m σ M' ⟨hM, lo, hi, ah, he, o, hm, eu, hσ⟩
  subst hσ
  subst hM
  refine ⟨fun h => ?_, fun h => ?_⟩
  · have hl : 1 < lo := of_decide_eq_true h
    obtain ⟨e2, s1, t0, t1⟩ := eu.step hl
    have b1 := eu.lh
    have b2 := eu.hp
    have b3 := eu.ah_le
    have k1 : HA.MulOk (hi / lo) lo := mulB t0 (by omega) (by omega) (by omega)
    have k2 : HA.MulOk (hi / lo) ah := MulOk.of (na300 t0 (by omega)) (b := 300) (by have := na300 (i := (ah.natAbs : Int)) (by omega) (by omega); omega) (by decide)
    have kd : HA.DivOk hi lo := DivOk.of (b := 300) (by omega) (na300 (by omega) (by omega)) (by decide) (by decide)
    exact ⟨kd, k1, k2, _, by have := e2.l0; omega, rfl, _, _, _, _, _, rfl, e2, rfl⟩
  · have hl : ¬ 1 < lo := of_decide_eq_false h
    have l0 := eu.l0
    refine ⟨fun h1 => ?_, fun h1 => ?_⟩
    · have h1 : lo = 1 := by simpa using h1
      subst h1
      exact ⟨mp _, .refl _, q _ eu.done1⟩
    · have h1 : ¬ lo = 1 := by simpa using h1
      have : lo = 0 := by omega
      subst this
      exact ⟨.refl _, q _ eu.done0⟩
/-! ### primes by trial -/
theorem tr_no {n d : Int} (h0 : 2 ≤ d) (hd : d * d ≤ n) (hm : n % d = 0) : ¬ PN.Pr n.toNat := fun hp => by
  have hdvd : d.toNat ∣ n.toNat := by
    have := Int.dvd_of_emod_eq_zero hm
    have h3 := Int.natAbs_dvd_natAbs.mpr this
    have e1 : d.natAbs = d.toNat := by omega
    have e2 : n.natAbs = n.toNat := by
      have : 0 ≤ d * d := Int.mul_nonneg (by omega) (by omega)
      omega
    rwa [e1, e2] at h3
  have dd : d * 2 ≤ d * d := Int.mul_le_mul_of_nonneg_left h0 (by omega)
  rcases hp.2 _ hdvd with e | e <;> omega
theorem tr_yes {n d : Int} (hn : 2 ≤ n) (hd : n < d * d) (h0 : 2 ≤ d) (h : ∀ c : Int, 2 ≤ c → c < d → n % c ≠ 0) : PN.Pr n.toNat := by
  refine Classical.byContradiction fun hp => ?_
  obtain ⟨r, hr, hrN, hrr⟩ := PN.small_prime (n := n.toNat) (by omega) hp
  have r2 := hr.1
  have e1 : ((r * r : Nat) : Int) ≤ n := by omega
  rw [Int.natCast_mul] at e1
  have hlt : (r : Int) < d := by
    refine Classical.byContradiction fun c => ?_
    have := Int.mul_le_mul (show d ≤ (r : Int) by omega) (show d ≤ (r : Int) by omega) (by omega) (by omega)
    omega
  refine h r (by omega) hlt ?_
  obtain ⟨k, hk⟩ := hrN
  have : n = (r : Int) * k := by
    have : (n.toNat : Int) = ((r * k : Nat) : Int) := by rw [hk]
    rw [Int.natCast_mul] at this
    omega
  rw [this, Int.mul_emod_right]
theorem v_is_prime : ∀ ds M Q E, sp_is_prime ds M Q E → t_is_prime (pureE M Q E) (startA N_is_prime ds) M := by
  intro ds M Q E ⟨n, h, ⟨n0, n1⟩, q⟩
  subst h
  have qF : ¬ PN.Pr n.toNat → fzD M M (.bl false) fun d' => Q d' M := fun hp => ⟨.refl M, q false ⟨fun z => (by cases z), fun z => absurd z hp⟩⟩
  refine ⟨fun h => ?_, fun h => ?_⟩
  · have h : n < 2 := of_decide_eq_true h
    exact qF fun hp => by have := hp.1; omega
  have h : ¬ n < 2 := of_decide_eq_false h
  refine nx_of ?_
  refine ⟨fun m σ M' => M' = M ∧ ∃ d : Int, m = (n - d + 10).toNat ∧ 2 ≤ d ∧ d ≤ n + 2 ∧ (∀ c : Int, 2 ≤ c → c < d → n % c ≠ 0) ∧ σ = [some (.int n), some (.int d)], ⟨_, rfl, 2, rfl, by decide, by omega, fun c h1 h2 => by omega, rfl⟩, ?_⟩
  rintro m σ M' ⟨hM, d, hm, d2, dn, hc, hσ⟩
  subst hσ
  subst hM
  refine ⟨MulOk.left (by omega) (by omega), fun h1 => ?_, fun h1 => ?_⟩
  · have h1 : d * d ≤ n := of_decide_eq_true h1
    have dd : d * 2 ≤ d * d := Int.mul_le_mul_of_nonneg_left d2 (by omega)
    refine ⟨(by show 0 < d; omega), fun h2 => ?_, fun h2 => ?_⟩
    · have h2 : n % d = 0 := by simpa using h2
      exact qF (tr_no d2 h1 h2)
    · have h2 : ¬ n % d = 0 := by simpa using h2
      refine nx_of ⟨_, ?_, rfl, d + 1, rfl, by omega, by omega, fun c c1 c2 => ?_, rfl⟩
      · omega
      · by_cases e : c = d
        · subst e; exact h2
        · exact hc c c1 (by omega)
  · have h1 : ¬ d * d ≤ n := of_decide_eq_false h1
    exact ⟨.refl _, q true ⟨fun _ => tr_yes (by omega) (by omega) d2 hc, fun _ => rfl⟩⟩
theorem v_law_is_prime : ∀ ds M Q E, sp_law_is_prime ds M Q E → t_law_is_prime (pureE M Q E) (startA N_law_is_prime ds) M := by
  intro ds M Q E ⟨n, h, ⟨n0, n1⟩, q⟩
  subst h
  have qF : ¬ PN.Pr n.toNat → fzD M M (.bl false) fun d' => Q d' M := fun hp => ⟨.refl M, q false ⟨fun z => (by cases z), fun z => absurd z hp⟩⟩
  have last : ∀ (d : Int) (o : Option D), 2 ≤ d → n < d * d → (∀ c : Int, 2 ≤ c → c < d → n % c ≠ 0) → t_law_is_prime_10 (pureE M Q E) [some (.int n), some (.int d), o] M := fun d o d2 hd hc => by
    refine ⟨.refl M, q _ ⟨fun h => ?_, fun h => ?_⟩⟩
    · have h : 1 < n := of_decide_eq_true h
      exact tr_yes (by omega) hd d2 hc
    · have := h.1
      exact decide_eq_true (by omega)
  refine ⟨⟨by decide, by decide⟩, ?_⟩
  refine for_fold (xs := rangeD 0 ((520 : Int)).toNat) (fun pre σ M' => M' = M ∧ ∃ (d : Int) (o : Option D), d = 2 + (pre.length : Int) ∧ (∀ c : Int, 2 ≤ c → c < d → n % c ≠ 0) ∧ σ = [some (.int n), some (.int d), o]) ⟨rfl, 2, none, rfl, fun c h1 h2 => by omega, rfl⟩ ?_ ?_
  · rintro pre x rest e σ M' ⟨hM, d, o, hd, hc, hσ⟩
    subst hσ
    subst hM
    have hl : pre.length < 520 := by
      have := congrArg List.length e
      rw [rangeD_len] at this
      simp at this; omega
    refine ⟨trivial, MulOk.left (by omega) (by omega), fun h1 => ?_, fun h1 => ?_⟩
    · have h1 : n < d * d := of_decide_eq_true h1
      exact last d (some x) (by omega) h1 hc
    · have h1 : ¬ n < d * d := of_decide_eq_false h1
      refine nx_of ⟨(by show 0 < d; omega), fun h2 => ?_, fun h2 => ?_⟩
      · have h2 : n % d = 0 := by simpa using h2
        exact qF (tr_no (by omega) (by omega) h2)
      · have h2 : ¬ n % d = 0 := by simpa using h2
        refine nx_of ⟨rfl, d + 1, some x, by simp; omega, fun c c1 c2 => ?_, rfl⟩
        by_cases e : c = d
        · subst e; exact h2
        · exact hc c c1 (by omega)
  · rintro σ M' ⟨hM, d, o, hd, hc, hσ⟩
    subst hσ
    subst hM
    rw [rangeD_len] at hd
    have : d = 522 := by omega
    subst this
    exact ⟨trivial, last 522 o (by decide) (by omega) hc⟩
end K06
/-! K06W: primes lie close together below 32700. -/
namespace K06
def chk : Nat → List (Nat × Nat) → Bool
  | a, [] => decide (32700 ≤ a)
  | a, (b, k) :: r => decide (a < b) && decide (b ≤ a + 79) && decide (2 ≤ b) && decide (b < (k + 2) * (k + 2)) && PN.tri b k 2 && chk b r
theorem chk_ok : ∀ (L : List (Nat × Nat)) (a : Nat), chk a L = true → ∀ p, a < p → p ≤ 32700 → ∃ q, p ≤ q ∧ q ≤ p + 78 ∧ PN.Pr q
  | [], a, h, p, h1, h2 => by
    have h : 32700 ≤ a := of_decide_eq_true h
    omega
  | (b, k) :: r, a, h, p, h1, h2 => by
    unfold chk at h
    simp only [Bool.and_eq_true, decide_eq_true_eq] at h
    obtain ⟨⟨⟨⟨⟨c1, c2⟩, c3⟩, c4⟩, c5⟩, c6⟩ := h
    by_cases hb : p ≤ b
    · exact ⟨b, hb, by omega, PN.pr_tri c3 c4 c5⟩
    · exact chk_ok r b c6 p (by omega) h2
def tab : List (Nat × Nat) := [(83, 8), (157, 11), (233, 14), (311, 16), (389, 18), (467, 20), (541, 22), (619, 23), (691, 25), (769, 26), (839, 27), (911, 29), (983, 30), (1061, 31), (1129, 32), (1201, 33), (1279, 34), (1327, 35), (1399, 36), (1471, 37), (1549, 38), (1627, 39), (1699, 40), (1777, 41), (1847, 41), (1913, 42), (1987, 43), (2063, 44), (2141, 45), (2213, 46), (2287, 46), (2357, 47), (2423, 48), (2477, 48), (2551, 49), (2621, 50), (2699, 50), (2777, 51), (2851, 52), (2927, 53), (3001, 53), (3079, 54), (3137, 55), (3209, 55), (3271, 56), (3347, 56), (3413, 57), (3491, 58), (3559, 58), (3637, 59), (3709, 59), (3779, 60), (3853, 61), (3931, 61), (4007, 62), (4079, 62), (4157, 63), (4231, 64), (4297, 64), (4373, 65), (4451, 65), (4523, 66), (4597, 66), (4673, 67), (4751, 67), (4817, 68), (4889, 68), (4967, 69), (5039, 69), (5113, 70), (5189, 71), (5261, 71), (5333, 72), (5407, 72), (5483, 73), (5557, 73), (5623, 73), (5701, 74), (5779, 75), (5857, 75), (5927, 75), (5987, 76), (6053, 76), (6131, 77), (6203, 77), (6277, 78), (6353, 78), (6427, 79), (6491, 79), (6569, 80), (6637, 80), (6709, 80), (6781, 81), (6857, 81), (6917, 82), (6991, 82), (7069, 83), (7129, 83), (7207, 83), (7283, 84), (7351, 84), (7417, 85), (7489, 85), (7561, 85), (7639, 86), (7717, 86), (7793, 87), (7867, 87), (7937, 88), (8011, 88), (8089, 88), (8167, 89), (8243, 89), (8317, 90), (8389, 90), (8467, 91), (8543, 91), (8609, 91), (8681, 92), (8753, 92), (8831, 92), (8893, 93), (8971, 93), (9049, 94), (9127, 94), (9203, 94), (9281, 95), (9349, 95), (9421, 96), (9497, 96), (9551, 96), (9629, 97), (9697, 97), (9769, 97), (9839, 98), (9907, 98), (9973, 98), (10039, 99), (10111, 99), (10181, 99), (10259, 100), (10337, 100), (10399, 100), (10477, 101), (10531, 101), (10607, 101), (10667, 102), (10739, 102), (10799, 102), (10867, 103), (10939, 103), (11003, 103), (11071, 104), (11149, 104), (11213, 104), (11287, 105), (11353, 105), (11423, 105), (11497, 106), (11551, 106), (11621, 106), (11699, 107), (11777, 107), (11839, 107), (11909, 108), (11987, 108), (12049, 108), (12119, 109), (12197, 109), (12269, 109), (12347, 110), (12421, 110), (12497, 110), (12569, 111), (12647, 111), (12721, 111), (12799, 112), (12853, 112), (12923, 112), (13001, 113), (13063, 113), (13127, 113), (13187, 113), (13259, 114), (13337, 114), (13411, 114), (13487, 115), (13553, 115), (13627, 115), (13697, 116), (13763, 116), (13841, 116), (13913, 116), (13967, 117), (14033, 117), (14107, 117), (14177, 118), (14251, 118), (14327, 118), (14401, 119), (14479, 119), (14557, 119), (14633, 119), (14699, 120), (14771, 120), (14843, 120), (14897, 121), (14969, 121), (15031, 121), (15107, 121), (15173, 122), (15241, 122), (15319, 122), (15391, 123), (15467, 123), (15541, 123), (15619, 123), (15683, 124), (15761, 124), (15823, 124), (15901, 125), (15973, 125), (16033, 125), (16111, 125), (16189, 126), (16267, 126), (16339, 126), (16417, 127), (16493, 127), (16567, 127), (16633, 127), (16703, 128), (16763, 128), (16831, 128), (16903, 129), (16981, 129), (17053, 129), (17123, 129), (17191, 130), (17257, 130), (17333, 130), (17401, 130), (17477, 131), (17551, 131), (17627, 131), (17683, 131), (17761, 132), (17839, 132), (17911, 132), (17989, 133), (18061, 133), (18133, 133), (18211, 133), (18289, 134), (18367, 134), (18443, 134), (18521, 135), (18593, 135), (18671, 135), (18749, 135), (18803, 136), (18869, 136), (18947, 136), (19013, 136), (19087, 137), (19163, 137), (19237, 137), (19309, 137), (19387, 138), (19463, 138), (19541, 138), (19609, 139), (19687, 139), (19763, 139), (19841, 139), (19919, 140), (19997, 140), (20071, 140), (20149, 140), (20219, 141), (20297, 141), (20369, 141), (20443, 141), (20521, 142), (20599, 142), (20663, 142), (20731, 142), (20809, 143), (20887, 143), (20963, 143), (21031, 144), (21107, 144), (21179, 144), (21247, 144), (21323, 145), (21401, 145), (21467, 145), (21529, 145), (21601, 145), (21673, 146), (21751, 146), (21821, 146), (21893, 146), (21961, 147), (22039, 147), (22111, 147), (22189, 147), (22259, 148), (22307, 148), (22381, 148), (22453, 148), (22531, 149), (22573, 149), (22651, 149), (22727, 149), (22787, 149), (22861, 150), (22937, 150), (23011, 150), (23087, 150), (23159, 151), (23227, 151), (23297, 151), (23371, 151), (23447, 152), (23509, 152), (23581, 152), (23633, 152), (23689, 152), (23767, 153), (23833, 153), (23911, 153), (23981, 153), (24049, 154), (24121, 154), (24197, 154), (24251, 154), (24329, 154), (24407, 155), (24481, 155), (24551, 155), (24623, 155), (24697, 156), (24767, 156), (24841, 156), (24919, 156), (24989, 157), (25057, 157), (25127, 157), (25189, 157), (25261, 157), (25339, 158), (25411, 158), (25471, 158), (25541, 158), (25609, 159), (25679, 159), (25747, 159), (25819, 159), (25889, 159), (25951, 160), (26029, 160), (26107, 160), (26183, 160), (26261, 161), (26339, 161), (26417, 161), (26489, 161), (26561, 161), (26633, 162), (26711, 162), (26783, 162), (26861, 162), (26927, 163), (26993, 163), (27067, 163), (27143, 163), (27211, 163), (27283, 164), (27361, 164), (27437, 164), (27509, 164), (27583, 165), (27653, 165), (27701, 165), (27779, 165), (27851, 165), (27919, 166), (27997, 166), (28069, 166), (28123, 166), (28201, 166), (28279, 167), (28351, 167), (28429, 167), (28499, 167), (28573, 168), (28649, 168), (28723, 168), (28793, 168), (28871, 168), (28949, 169), (29027, 169), (29101, 169), (29179, 169), (29251, 170), (29327, 170), (29401, 170), (29473, 170), (29537, 170), (29611, 171), (29683, 171), (29761, 171), (29837, 171), (29881, 171), (29959, 172), (30029, 172), (30103, 172), (30181, 172), (30259, 172), (30323, 173), (30391, 173), (30469, 173), (30539, 173), (30593, 173), (30671, 174), (30727, 174), (30803, 174), (30881, 174), (30949, 174), (31019, 175), (31091, 175), (31159, 175), (31237, 175), (31307, 175), (31379, 176), (31397, 176), (31469, 176), (31547, 176), (31607, 176), (31667, 176), (31741, 177), (31817, 177), (31891, 177), (31963, 177), (32029, 177), (32099, 178), (32173, 178), (32251, 178), (32327, 178), (32401, 179), (32479, 179), (32537, 179), (32611, 179), (32687, 179), (32749, 179)]
theorem tab_ok : chk 6 tab = true := by decide +kernel
theorem gap {p : Nat} (h1 : 7 ≤ p) (h2 : p ≤ 32700) : ∃ q, p ≤ q ∧ q ≤ p + 78 ∧ PN.Pr q := chk_ok tab 6 tab_ok p (by omega) h2
end K06
namespace K06
open PySem PySem.Spec L2 HA
theorem no32 {p : Nat} (hp : PN.Pr p) (h : 7 ≤ p) : ¬ p ∣ 32 := fun hd => by
  have step : ∀ k, p ∣ 2 * k → p ∣ k := fun k hk => by
    rcases hp.dvd_mul hk with z | z
    · have := Nat.le_of_dvd (by decide) z; omega
    · exact z
  have := step 1 (step 2 (step 4 (step 8 (step 16 hd))))
  have := Nat.le_of_dvd (by decide) this
  omega
theorem v_law_small : ∀ ds M Q E, sp_law_small ds M Q E → t_law_small (pureE M Q E) (startA N_law_small ds) M := by
  intro ds M Q E ⟨x, h, hd, q⟩
  subst h
  have rest : ∀ (p : Int) (o : Option D), PN.Pr p.toNat → 7 ≤ p → p ≤ 33000 → t_law_small_11 (pureE M Q E) [some x, some (.int 32700), some (.int p), o, none, none] M := fun p o hp p7 pu => by
    have mp : ∀ i, HA.ModOk i p := fun i => by show 0 < p; omega
    have hmn : (if (400 : Int) < p then 400 else p) ≤ 400 ∧ 7 ≤ (if (400 : Int) < p then 400 else p) := by split <;> omega
    obtain ⟨n, hr, hn⟩ := rgc_from (lo := 6) (hi := if (400 : Int) < p then 400 else p) (sz := 4) (by decide) (by decide) (by decide) (by omega)
    have hn1 : 1 ≤ n ∧ n ≤ 100 := by
      rw [if_pos (by omega)] at hn
      omega
    refine ⟨n, hr, ?_⟩
    refine lcF_fold (xs := stepD 6 4 n) (fun _ _ => ?_) (by rw [stepD_len]; exact sz_le (by omega)) (fun pre acc => ∃ zs : List Int, acc = zs.map .int ∧ zs.length ≤ pre.length ∧ (pre ≠ [] → zs ≠ [])) ⟨[], rfl, Nat.le_refl _, fun h => absurd rfl h⟩ ?_ ?_
    · trivial
    · rintro pre y rest acc M' e ⟨zs, rfl, hz, hne⟩ hM
      obtain ⟨ps, i, rs, e1, e2, rfl, e4⟩ := map_split ((stepD_eq _ _ _).symm.trans e)
      obtain ⟨ei, hi, e6⟩ := range_split e1
      have elen : pre.length = i := by rw [e2]; simp [ei]
      refine ⟨MulOk.left (by omega) (by omega), mp _, fun h1 => ⟨rfl, zs ++ [6 + (i : Int) * 4], by simp, by simp; omega, fun _ => by simp⟩, fun h1 => ⟨rfl, zs, rfl, by simp; omega, fun _ => ?_⟩⟩
      by_cases hpre : pre = []
      · exfalso
        rw [hpre] at elen
        have i0 : i = 0 := by simpa using elen.symm
        subst i0
        have h1 : ((6 + ((0 : Nat) : Int) * 4) * (6 + ((0 : Nat) : Int) * 4) - 4) % p = 0 := by simpa using h1
        have h1 : (32 : Int) % p = 0 := h1
        refine no32 hp (by omega) ?_
        have := Int.natAbs_dvd_natAbs.mpr (Int.dvd_of_emod_eq_zero h1)
        have e1 : p.natAbs = p.toNat := by omega
        rw [e1] at this
        exact this
      · exact hne hpre
    · rintro acc ⟨zs, rfl, hz, hne⟩
      have hx : stepD 6 4 n ≠ [] := fun z => by have := congrArg List.length z; rw [stepD_len] at this; simp at this; omega
      have hzn := hne hx
      rw [stepD_len] at hz
      refine ⟨rfl, rfl, x, _, zs.map .int, rfl, hd, .inr (.inl rfl), by simpa using hzn, by simp; omega, fun d hm => ?_⟩
      obtain ⟨a, _, rfl⟩ := List.mem_map.mp hm
      refine ⟨rfl, rfl, x, _, rfl, hd, dr_ok ?_ ?_, fun b b0 b1 => ⟨sz_le (by simp), .refl M, q p a _ hp p7 pu⟩⟩
      · show 0 < p - 1; omega
      · show p - 1 < _; omega
  refine ⟨rfl, rfl, x, _, rfl, hd, dr_ok (by decide) (by decide), fun r r0 r1 => ?_⟩
  have r1 : r < 32700 - 6 := r1
  refine ⟨⟨by decide, by decide⟩, ?_⟩
  refine for_fold (xs := rangeD 0 ((80 : Int)).toNat) (fun pre σ M' => M' = M ∧ ∃ o : Option D, (∀ j : Nat, j < pre.length → ¬ PN.Pr ((7 + r).toNat + j)) ∧ σ = [some x, some (.int 32700), some (.int (7 + r + pre.length)), o, none, none]) ⟨rfl, none, fun j hj => by simp at hj, by simp⟩ ?_ ?_
  · rintro pre y rs e σ M' ⟨hM, o, hj, hσ⟩
    subst hσ
    subst hM
    have hl : pre.length < 80 := by
      have := congrArg List.length e
      rw [rangeD_len] at this
      simp at this; omega
    refine ⟨trivial, rfl, rfl, 7 + r + pre.length, rfl, ⟨by omega, by omega⟩, fun b hb => ?_⟩
    have et : (7 + r + (pre.length : Int)).toNat = (7 + r).toNat + pre.length := by omega
    refine ⟨fun h => ?_, fun h => ?_⟩
    · exact rest _ (some y) (hb.mp h) (by omega) (by omega)
    · refine nx_of ⟨rfl, some y, fun j hj2 => ?_, ?_⟩
      · rw [List.length_append, List.length_singleton] at hj2
        by_cases e : j = pre.length
        · rw [e, ← et]
          intro z
          rw [hb.mpr z] at h
          cases h
        · exact hj j (by omega)
      · have : (7 + r + ((pre ++ [y]).length : Int)) = 7 + r + (pre.length : Int) + 1 := by simp; omega
        rw [this]; rfl
  · rintro σ M' ⟨hM, o, hj, hσ⟩
    exfalso
    rw [rangeD_len] at hj
    obtain ⟨q', h1, h2, h3⟩ := gap (p := (7 + r).toNat) (by omega) (by omega)
    have := hj (q' - (7 + r).toNat) (by show _ < 80; omega)
    have e : (7 + r).toNat + (q' - (7 + r).toNat) = q' := by omega
    rw [e] at this
    exact this h3
/-! ### powers by halves -/
def val (bs : List Nat) : Nat := bs.foldr (fun b t => b + 2 * t) 0
theorem val_snoc : ∀ (bs : List Nat) (b : Nat), val (bs ++ [b]) = val bs + 2 ^ bs.length * b
  | [], b => by simp [val]
  | c :: bs, b => by
    have ih := val_snoc bs b
    have e1 : val (c :: bs ++ [b]) = c + 2 * val (bs ++ [b]) := rfl
    have e2 : val (c :: bs) = c + 2 * val bs := rfl
    rw [e1, ih, e2, List.length_cons, Nat.pow_succ]
    generalize 2 ^ bs.length = w
    grind
def nD (b : Nat) : D := .int b
theorem nD_inj {a b : Nat} (h : nD a = nD b) : a = b := by
  have : (a : Int) = b := by injection h
  omega
theorem v_law_power : ∀ ds M Q E, sp_law_power ds M Q E → t_law_power (pureE M Q E) (startA N_law_power ds) M := by
  intro ds M Q E ⟨p, n, e, h, ⟨hp, hB⟩, ⟨hn, nB⟩, he, q⟩
  subst h
  have mp : ∀ i, HA.ModOk i p := fun i => by show 0 < p; omega
  have em : ∀ i : Int, 0 ≤ i % p ∧ i % p < p := fun i => ⟨Int.emod_nonneg _ (by omega), Int.emod_lt_of_pos _ (by omega)⟩
  refine ⟨mp _, sz_le (by simp), fun a ha => ?_⟩
  have rest : ∀ (bs : List Nat) (e' : Int) (o : Option D), (∀ b ∈ bs, b = 0 ∨ b = 1) → e = val bs → t_law_power_16 (pureE M Q E) [some (.int p), some (.int n), some (.int e'), some (.int (1 % p)), some (.ref a), o, none] (mset M a (.lst (bs.map nD))) := fun bs e' o hb hv => by
    refine ⟨_, mset_same, _, rfl, ?_⟩
    refine for_fold (xs := (bs.map nD).reverse) (fun pre σ M' => M' = mset M a (.lst (bs.map nD)) ∧ ∃ (ms : List Nat) (f : Int) (o6 : Option D), pre = ms.map nD ∧ (0 ≤ f ∧ f < p) ∧ f = n ^ (val ms.reverse) % p ∧ σ = [some (.int p), some (.int n), some (.int e'), some (.int f), some (.ref a), o, o6]) ⟨rfl, [], 1 % p, none, rfl, em _, by simp [val], rfl⟩ ?_ ?_
    · rintro pre y rs e1 σ M' ⟨hM, ms, f, o6, hpre, hf, hfv, hσ⟩
      subst hσ
      rw [← List.map_reverse] at e1
      obtain ⟨ps, b, rs', e2, e3, rfl, e4⟩ := map_split e1
      have hb1 := hb b (by rw [← List.mem_reverse, e2]; simp)
      have ff : f * f % p = n ^ (2 * val ms.reverse) % p := by
        rw [hfv]
        have := mul_cong (p := p) (Int.emod_emod_of_dvd (n ^ val ms.reverse) (Int.dvd_refl p)) (Int.emod_emod_of_dvd (n ^ val ms.reverse) (Int.dvd_refl p))
        rw [this, ← Int.pow_add]
        congr 2; omega
      have fn : f * f % p * n % p = n ^ (1 + 2 * val ms.reverse) % p := by
        rw [ff]
        have := mul_cong (p := p) (Int.emod_emod_of_dvd (n ^ (2 * val ms.reverse)) (Int.dvd_refl p)) (rfl : n % p = n % p)
        rw [this, Nat.add_comm, Int.pow_succ]
      have hv' : val (ms ++ [b]).reverse = b + 2 * val ms.reverse := by rw [List.reverse_append]; rfl
      refine ⟨trivial, mulB hf.1 (by omega) hf.1 (by omega), mp _, fun h => ?_, fun h => ?_⟩
      · have h : (b : Int) = 1 := by simpa using h
        have hb2 : b = 1 := by omega
        subst hb2
        refine ⟨mulB (em (f * f)).1 (Int.lt_trans (em (f * f)).2 hB) hn nB, mp _, hM, ms ++ [1], _, some (nD 1), by rw [hpre]; simp, em _, ?_, rfl⟩
        rw [hv']; exact fn
      · have h : ¬ (b : Int) = 1 := by simpa using h
        have hb2 : b = 0 := by omega
        subst hb2
        refine nx_of ⟨hM, ms ++ [0], _, some (nD 0), by rw [hpre]; simp, em _, ?_, rfl⟩
        rw [hv', Nat.zero_add]; exact ff
    · rintro σ M' ⟨hM, ms, f, o6, hpre, hf, hfv, hσ⟩
      subst hσ
      rw [← List.map_reverse] at hpre
      have hpre := (List.map_inj_right fun _ _ => nD_inj).mp hpre
      rw [← hpre, List.reverse_reverse, ← hv] at hfv
      rw [hM, hfv]
      exact ⟨trivial, .new ha, q⟩
  refine ⟨⟨by decide, by decide⟩, ?_⟩
  refine for_fold (xs := rangeD 0 ((300 : Int)).toNat) (fun pre σ M' => ∃ (bs : List Nat) (e' : Nat) (o : Option D), (∀ b ∈ bs, b = 0 ∨ b = 1) ∧ bs.length = pre.length ∧ e = val bs + 2 ^ bs.length * e' ∧ M' = mset M a (.lst (bs.map nD)) ∧ σ = [some (.int p), some (.int n), some (.int e'), some (.int (1 % p)), some (.ref a), o, none]) ⟨[], e, none, (by intro b hb; cases hb), rfl, (by simp [val]), rfl, rfl⟩ ?_ ?_
  · rintro pre y rs e1 σ M' ⟨bs, e', o, hb, hl, hv, hM, hσ⟩
    subst hσ
    subst hM
    have hl3 : pre.length < 300 := by
      have := congrArg List.length e1
      rw [rangeD_len] at this
      simp at this; omega
    refine ⟨trivial, fun h => ?_, fun h => ?_⟩
    · have h : (e' : Int) = 0 := by simpa using h
      have : e' = 0 := by omega
      subst this
      exact rest bs _ (some y) hb (by simpa using hv)
    · have e2 : ((e' : Int)) / 2 = ((e' / 2 : Nat) : Int) := by omega
      have e3 : ((e' : Int)) % 2 = ((e' % 2 : Nat) : Int) := by omega
      refine nx_of ⟨⟨_, mset_same⟩, (by show (0 : Int) < 2; decide), _, mset_same, ?_, DivOk.small (by decide) (by decide), bs ++ [e' % 2], e' / 2, some y, ?_, by simp [hl], ?_, ?_, ?_⟩
      · rw [List.length_map]; exact Nat.lt_of_lt_of_le (show _ < 16777216 by omega) (sz_le (by omega))
      · intro b hbm
        rcases List.mem_append.mp hbm with z | z
        · exact hb b z
        · rw [List.mem_singleton] at z; omega
      · rw [val_snoc, List.length_append, List.length_singleton, Nat.pow_succ, hv]
        have : e' = 2 * (e' / 2) + e' % 2 := by omega
        generalize e' / 2 = u at *
        generalize e' % 2 = v at *
        generalize 2 ^ bs.length = w at *
        subst this
        grind
      · rw [mset_mset, List.map_append]
        show mset M a (.lst (bs.map nD ++ [D.int ((e' : Int) % 2)])) = _
        rw [e3]; rfl
      · show [some (D.int p), some (D.int n), some (D.int ((e' : Int) / 2)), some (D.int (1 % p)), some (D.ref a), some y, none] = _
        rw [e2]
  · rintro σ M' ⟨bs, e', o, hb, hl, hv, hM, hσ⟩
    subst hσ
    subst hM
    rw [rangeD_len] at hl
    have hl : bs.length = 300 := hl
    have e0 : e' = 0 := by
      refine Classical.byContradiction fun c => ?_
      have : 2 ^ 300 * 1 ≤ 2 ^ bs.length * e' := by rw [hl]; exact Nat.mul_le_mul_left _ (by omega)
      omega
    subst e0
    exact ⟨trivial, rest bs _ o hb (by simpa using hv)⟩
end K06
namespace K06
open PySem PySem.Spec L2 HA
theorem pow_zero_mod {p n : Int} (h : n % p = 0) {k : Nat} (hk : 0 < k) : n ^ k % p = 0 := by
  obtain ⟨j, rfl⟩ : ∃ j, k = j + 1 := ⟨k - 1, by omega⟩
  rw [Int.pow_succ, Int.mul_emod, h, Int.mul_zero, Int.zero_emod]
theorem flt_int {p n : Int} (hp : PN.Pr p.toNat) (hn : 0 ≤ n) (h : n % p ≠ 0) : n ^ (p.toNat - 1) % p = 1 := by
  have p2 := hp.1
  have nd : ¬ p.toNat ∣ n.toNat := fun hd => by
    apply h
    obtain ⟨k, hk⟩ := hd
    have : n = p * k := by
      have : (n.toNat : Int) = ((p.toNat * k : Nat) : Int) := by rw [hk]
      rw [Int.natCast_mul] at this
      rw [show (n.toNat : Int) = n by omega, show (p.toNat : Int) = p by omega] at this
      exact this
    rw [this, Int.mul_emod_right]
  have f := PN.flt hp nd
  have e : ((n.toNat ^ (p.toNat - 1) % p.toNat : Nat) : Int) = 1 := by rw [f]; rfl
  rw [Int.natCast_emod, Int.natCast_pow, show (n.toNat : Int) = n by omega, show (p.toNat : Int) = p by omega] at e
  exact e
theorem inv_pow {p n r : Int} (hp : PN.Pr p.toNat) (p3 : 3 ≤ p) (hn : 0 ≤ n) (h : Inv p n r) : r = n ^ (p - 2).toNat % p := by
  by_cases hz : n % p = 0
  · rw [h.1 hz, pow_zero_mod hz (by omega)]
  · obtain ⟨⟨r0, r1⟩, hr⟩ := h.2 hz
    have f := flt_int hp hn hz
    have e : p.toNat - 1 = (p - 2).toNat + 1 := by omega
    rw [e, Int.pow_succ] at f
    generalize n ^ (p - 2).toNat = w at *
    have p1 : (1 : Int) % p = 1 := Int.emod_eq_of_lt (by decide) (by omega)
    have a : r * (w * n) % p = r * 1 % p := mul_cong rfl (by rw [f, p1])
    have b : w * (r * n) % p = w * 1 % p := mul_cong rfl (by rw [hr, p1])
    have c : r * (w * n) = w * (r * n) := by grind
    rw [c, b, Int.mul_one, Int.mul_one, Int.emod_eq_of_lt (Int.le_of_lt r0) r1] at a
    exact a.symm
theorem G_eq : (1 : Int) * 2 ^ (255 : Int).toNat - 19 = 57896044618658097711785492504343953926634992332820282019728792003956564819949 := by decide
abbrev G : Int := 57896044618658097711785492504343953926634992332820282019728792003956564819949
theorem prG : PN.Pr G.toNat := PN.prG
theorem sB {i : Int} (h0 : 0 ≤ i) (h : i < B300) : ShowOk (.int i) := show_int (Nat.lt_of_lt_of_le (na300 h0 h) (Nat.pow_le_pow_right (by decide) (by decide)))
theorem sBl (b : Bool) : ShowOk (.bool b) := (Sh.bl b).ok (by decide) (by decide)
theorem shown0 : PyData.shown (.int 0) = ("0" : Str) := by decide +kernel
theorem pow9 : CPow 10 9 := by unfold CPow; decide
theorem pow6 : CPow 10 6 := by unfold CPow; decide
theorem pow40 : CPow 10 40 := by unfold CPow; decide
abbrev vL (A x : D) (p : Int) (o4 o5 o6 o7 o8 o9 o10 : Option D) : AS := [some A, some x, some (.int p), some (.int G), o4, o5, o6, o7, o8, o9, o10]
section
variable {M : Mem} {A x : D} {D' : AEn} {p : Int} {o4 o5 o6 o7 o8 o9 o10 : Option D}
/-- what the law's p is -/
def Pp (p : Int) : Prop := PN.Pr p.toNat ∧ 7 ≤ p ∧ p ≤ 33000
theorem bB {i : Int} (h : i ≤ 1000000000000) : i < B300 := by unfold B300; omega
theorem l19 (hd : Deal M x) (hp : Pp p) (hD : ∀ o9, D'.nx (vL A x p o4 o5 o6 o7 o8 o9 o10) M) : t_law_19 D' (vL A x p o4 o5 o6 o7 o8 o9 o10) M := by
  obtain ⟨hp, p7, pu⟩ := hp
  have go : ∀ s : Int, 0 ≤ s → s ≤ 270000 → t_law_18 D' (vL A x p o4 o5 o6 o7 o8 (some (.int s)) o10) M := fun s s0 s1 => by
    refine ⟨rfl, rfl, s, rfl, ⟨s0, by omega⟩, fun b hb => ⟨_, .bl b, sBl b, rfl, rfl, s, rfl, ⟨s0, s1⟩, fun b' hb' => ⟨_, .bl b', sBl b', fun h => (ne_self ?_ h).elim, fun _ => nx_of (hD _)⟩⟩⟩
    have : b = b' := by
      rw [Bool.eq_iff_iff]
      exact hb.trans hb'.symm
    rw [this]
  refine ⟨rfl, rfl, x, 12, rfl, hd, dr_ok (by decide) (by decide), fun a a0 a1 => ⟨rfl, rfl, x, 65536, rfl, hd, dr_ok (by decide) (by decide), fun b b0 b1 => ⟨rfl, rfl, x, 262144, rfl, hd, dr_ok (by decide) (by decide), fun c c0 c1 => ⟨MulOk.left (by decide) (by decide), sz_le (by simp), rfl, rfl, x, _, _, rfl, hd, .inr (.inl rfl), by simp, by simp, fun d hm => ?_⟩⟩⟩⟩
  simp only [List.mem_cons, List.not_mem_nil, or_false] at hm
  rcases hm with rfl | rfl | rfl | rfl | rfl | rfl | rfl | rfl | rfl
  · exact go _ (by omega) (by omega)
  · exact go _ (by decide) (by decide)
  · exact go _ (by decide) (by decide)
  · exact go _ (by omega) (by omega)
  · exact go _ (by omega) (by omega)
  · exact go _ (by omega) (by omega)
  · exact go _ (by omega) (by omega)
  · exact go _ (by decide) (by decide)
  · exact go _ (by decide) (by decide)
theorem Inv.bd {n r : Int} (hp : 0 < p) (h : Inv p n r) : 0 ≤ r ∧ r < p := by
  by_cases hz : n % p = 0
  · rw [h.1 hz]; omega
  · obtain ⟨⟨a, b⟩, _⟩ := h.2 hz; omega
theorem l20 (hd : Deal M x) (hp : Pp p) {n r : Int} (n0 : 0 ≤ n) (hr : Inv p n r) (hD : ∀ o9, D'.nx (vL A x p o4 (some (.int n)) o6 o7 (some (.int r)) o9 o10) M) : t_law_20 D' (vL A x p o4 (some (.int n)) o6 o7 (some (.int r)) o9 o10) M := by
  have hpp := hp
  obtain ⟨hp, p7, pu⟩ := hp
  have rb := Inv.bd (by omega) hr
  have e := inv_pow hp (by omega) n0 hr
  have er : r < B300 := bB (by omega)
  have e2 : p - 2 = (((p - 2).toNat : Nat) : Int) := by omega
  refine ⟨_, .int r, sB rb.1 er, rfl, rfl, p, n, (p - 2).toNat, ?_, ⟨by omega, bB (by omega)⟩, n0, ?_⟩
  · show [D.int p, D.int n, D.int (p - 2)] = _
    rw [← e2]
  · rw [← e]
    exact ⟨_, .int r, sB rb.1 er, fun h => (ne_self rfl h).elim, fun _ => nx_of (l19 hd hpp hD)⟩
theorem l21 (hd : Deal M x) (hp : Pp p) {n r : Int} (n0 : 0 ≤ n) (n1 : n ≤ 1000000000) (hr : Inv p n r) (hD : ∀ o9, D'.nx (vL A x p o4 (some (.int n)) o6 o7 (some (.int r)) o9 o10) M) : t_law_21 D' (vL A x p o4 (some (.int n)) o6 o7 (some (.int r)) o9 o10) M := by
  have p7 := hp.2.1
  have pu := hp.2.2
  have mp : ∀ i, HA.ModOk i p := fun i => by show 0 < p; omega
  have rb := Inv.bd (by omega) hr
  have nxt := l20 (o6 := o6) (o7 := o7) (o9 := o9) (o10 := o10) (A := A) (o4 := o4) hd hp n0 hr hD
  refine ⟨mp _, fun h => ?_, fun h => ?_⟩
  · have hz : n % p = 0 := by simpa using h
    have r0 := hr.1 hz
    subst r0
    exact ⟨_, .int 0, sB (by decide) (bB (by decide)), fun h => (ne_self shown0 h).elim, fun _ => nx_of nxt⟩
  · have hz : ¬ n % p = 0 := by simpa using h
    obtain ⟨⟨r0, r1⟩, r2⟩ := hr.2 hz
    refine ⟨"int", rfl, by decide, fun h => absurd (show (!isB "int" "int") = true from h) (by decide), fun _ => ⟨"int", rfl, by decide, fun h => absurd (show isB "int" "bool" = true from h) (by decide), fun _ => ⟨fun _ => ⟨fun h => ?_, fun _ => ⟨mulB rb.1 (bB (by omega)) n0 (bB (by omega)), mp _, fun h => (ne_self r2 h).elim, fun _ => nx_of nxt⟩⟩, fun h => ?_⟩⟩⟩
    · have h : (!decide (r < p)) = true := h
      simp at h; omega
    · have h : decide (0 < r) = false := h
      simp at h; omega
theorem l23 (hd : Deal M x) (hp : Pp p) {n m : Int} {e : Nat} (n0 : 0 ≤ n) (n1 : n ≤ 1000000000) (m0 : 1 ≤ m) (m1 : m ≤ 100000) (he : e ≤ 1000000) (hD : ∀ o8 o9, D'.nx (vL A x p o4 (some (.int n)) (some (.int e)) (some (.int m)) o8 o9 o10) M) : t_law_23 D' (vL A x p o4 (some (.int n)) (some (.int e)) (some (.int m)) o8 o9 o10) M := by
  have pB := bB (show p ≤ 1000000000000 by have := hp.2.2; omega)
  have z0 := Int.emod_nonneg (n ^ e) (show m ≠ 0 by omega)
  have z1 := Int.emod_lt_of_pos (n ^ e) (show 0 < m by omega)
  have sh := sB z0 (bB (by omega))
  have e3 : e < 2 ^ 300 := Nat.lt_of_le_of_lt he (by decide)
  refine ⟨rfl, rfl, m, n, e, rfl, ⟨m0, bB (by omega)⟩, n0, _, .int _, sh, rfl, rfl, m, n, e, rfl, ⟨m0, bB (by omega)⟩, ⟨n0, bB (by omega)⟩, e3, _, .int _, sh, fun h => (ne_self rfl h).elim, fun _ => nx_of ?_⟩
  exact ⟨rfl, rfl, p, n, rfl, ⟨hp.1, pB⟩, n0, fun r hr => l21 hd hp n0 n1 hr fun _ => hD _ _⟩
theorem l26 (hd : Deal M x) (hp : Pp p) (hD : ∀ o5 o6 o7 o8 o9, D'.nx (vL A x p o4 o5 o6 o7 o8 o9 o10) M) : t_law_26 D' (vL A x p o4 o5 o6 o7 o8 o9 o10) M := by
  have p7 := hp.2.1
  have pu := hp.2.2
  have e9 : (10 : Int) ^ (9 : Int).toNat = 1000000000 := by decide
  have e6 : (10 : Int) ^ (6 : Int).toNat = 1000000 := by decide
  have g24 : ∀ (n : Int) (e : Nat), 0 ≤ n → n ≤ 1000000000 → e ≤ 1000000 → t_law_24 D' (vL A x p o4 (some (.int n)) (some (.int e)) o7 o8 o9 o10) M := fun n e n0 n1 he => by
    refine ⟨rfl, rfl, x, 60000, rfl, hd, dr_ok (by decide) (by decide), fun a a0 a1 => ⟨sz_le (by simp), rfl, rfl, x, _, _, rfl, hd, .inr (.inl rfl), by simp, by simp, fun d hm => ?_⟩⟩
    have go : ∀ m : Int, 1 ≤ m → m ≤ 100000 → t_law_23 D' (vL A x p o4 (some (.int n)) (some (.int e)) (some (.int m)) o8 o9 o10) M := fun m m0 m1 => l23 hd hp n0 n1 m0 m1 he fun _ _ => hD _ _ _ _ _
    simp only [List.mem_cons, List.not_mem_nil, or_false] at hm
    rcases hm with rfl | rfl | rfl | rfl
    · exact go _ (by omega) (by omega)
    · exact go _ (by omega) (by omega)
    · exact go _ (by decide) (by decide)
    · exact go _ (by omega) (by omega)
  have g25 : ∀ n : Int, 0 ≤ n → n ≤ 1000000000 → t_law_25 D' (vL A x p o4 (some (.int n)) o6 o7 o8 o9 o10) M := fun n n0 n1 => by
    refine ⟨pow6, rfl, rfl, x, _, rfl, hd, dr_ok (by decide) (by decide), fun a a0 a1 => ⟨sz_le (by simp), rfl, rfl, x, _, _, rfl, hd, .inr (.inl rfl), by simp, by simp, fun d hm => ?_⟩⟩
    have a1 : a < (10 : Int) ^ (6 : Int).toNat := a1
    rw [e6] at a1
    obtain ⟨e, rfl, he⟩ : ∃ e : Nat, d = .int e ∧ e ≤ 1000000 := by
      simp only [List.mem_cons, List.not_mem_nil, or_false] at hm
      rcases hm with rfl | rfl | rfl | rfl | rfl
      · exact ⟨0, rfl, by omega⟩
      · exact ⟨1, rfl, by omega⟩
      · exact ⟨2, rfl, by omega⟩
      · exact ⟨(p - 2).toNat, by congr 1; omega, by omega⟩
      · exact ⟨a.toNat, by congr 1; omega, by omega⟩
    exact g24 n e n0 n1 he
  refine ⟨rfl, rfl, x, p, rfl, hd, dr_ok (by omega) (by omega), fun a a0 a1 => ⟨pow9, rfl, rfl, x, _, rfl, hd, dr_ok (by decide) (by decide), fun b b0 b1 => ⟨sz_le (by simp), rfl, rfl, x, _, _, rfl, hd, .inr (.inl rfl), by simp, by simp, fun d hm => ?_⟩⟩⟩
  have b1 : b < (10 : Int) ^ (9 : Int).toNat := b1
  rw [e9] at b1
  simp only [List.mem_cons, List.not_mem_nil, or_false] at hm
  rcases hm with rfl | rfl | rfl | rfl | rfl
  · exact g25 _ (by decide) (by decide)
  · exact g25 _ (by decide) (by decide)
  · exact g25 _ (by omega) (by omega)
  · exact g25 _ (by omega) (by omega)
  · exact g25 _ (by omega) (by omega)
end
theorem v_law : ∀ ds M Q E, sp_law ds M Q E → t_law (anyE Q E) (startA N_law ds) M := by
  intro ds M Q E ⟨ns, h, hl, hb, hM, q⟩
  subst h
  refine ⟨rfl, rfl, ns, 6, rfl, hl, hb, ⟨by decide, by decide⟩, fun a M1 _ _ hd => ?_⟩
  refine ⟨rfl, rfl, .ref a, rfl, hd, fun p a2 b2 hp p7 pu => ⟨.int p, rfl, ShlOk.of (n := 1) (by decide) (by decide) (by decide), ?_⟩⟩
  show t_law_35 (anyE Q E) [some (.frz (ns.map .int)), some (.ref a), some (.int p), some (.int ((1 : Int) * 2 ^ (255 : Int).toNat - 19)), none, none, none, none, none, none, none] M1
  rw [G_eq]
  refine ⟨⟨by decide, by decide⟩, ?_⟩
  refine for_fold (xs := rangeD 0 ((4 : Int)).toNat) (fun pre σ M' => M' = M1 ∧ ∃ o4 o5 o6 o7 o8 o9 o10 : Option D, σ = vL (.frz (ns.map .int)) (.ref a) p o4 o5 o6 o7 o8 o9 o10)
    ⟨rfl, none, none, none, none, none, none, none, rfl⟩ ?_ ?_
  · rintro pre y rest e σ M' ⟨hM', o4, o5, o6, o7, o8, o9, o10, hσ⟩
    subst hσ
    subst hM'
    refine ⟨trivial, ?_⟩
    refine l26 hd ⟨hp, p7, pu⟩ ?_
    intro o5 o6 o7 o8 o9
    exact ⟨rfl, _, _, _, _, _, _, _, rfl⟩
  · rintro σ M' ⟨hM', o4, o5, o6, o7, o8, o9, o10, hσ⟩
    subst hσ
    subst hM'
    have e40 : (10 : Int) ^ (40 : Int).toNat = 10000000000000000000000000000000000000000 := by decide
    have GB : G < B300 := by decide
    refine ⟨trivial, pow40, rfl, rfl, .ref a, _, rfl, hd, dr_ok (by decide) (by decide), fun k k0 k1 => ?_⟩
    have k1 : k < (10 : Int) ^ (40 : Int).toNat := k1
    rw [e40] at k1
    have n0 : 0 ≤ 1 + k := by omega
    have nB : 1 + k < B300 := by unfold B300; omega
    have nG : (1 + k) % G = 1 + k := Int.emod_eq_of_lt n0 (by show 1 + k < 57896044618658097711785492504343953926634992332820282019728792003956564819949; omega)
    refine ⟨rfl, rfl, G, 1 + k, rfl, ⟨prG, GB⟩, n0, fun r hr => ?_⟩
    obtain ⟨⟨r0, r1⟩, r2⟩ := hr.2 (by rw [nG]; omega)
    refine ⟨rfl, rfl, G, 1 + k, 3, rfl, ⟨by decide, GB⟩, n0, ?_⟩
    have mG : ∀ i, HA.ModOk i G := fun i => by show (0 : Int) < G; decide
    have rB : r < B300 := Int.lt_trans r1 GB
    have sq : HA.MulOk ((1 + k) * (1 + k)) (1 + k) := by
      have e140 : (2 : Int) ^ 140 = 1393796574908163946345982392040522594123776 := by decide
      have n140 : (1 + k).natAbs < 2 ^ 140 := na_lt n0 (by rw [e140]; omega)
      refine MulOk.of (a := 280) (b := 140) ?_ n140 (by decide)
      rw [Int.natAbs_mul]
      have : (2 : Nat) ^ 280 = 2 ^ 140 * 2 ^ 140 := by decide
      rw [this]
      exact Nat.mul_lt_mul'' n140 n140
    have fin : (anyE Q E).rt (.bl true) M' := ⟨M', .refl _, q M'⟩
    refine ⟨fun _ => ⟨fun _ => ⟨mulB (Int.le_of_lt r0) rB n0 nB, mG _, fun _ => ⟨mulB n0 nB n0 nB, sq, mG _, ?_⟩, fun h => ?_⟩, fun h => ?_⟩, fun h => ?_⟩
    · show (anyE Q E).rt (.bl (false ^^ decide ((1 + k) ^ 3 % G = (1 + k) * (1 + k) * (1 + k) % G))) M'
      have : (1 + k) ^ 3 = (1 + k) * (1 + k) * (1 + k) := by rw [Int.pow_succ, Int.pow_succ, Int.pow_succ, Int.pow_zero, Int.one_mul]
      rw [this, decide_eq_true rfl]
      exact fin
    · have h : (false ^^ decide (r * (1 + k) % G = 1)) = false := h
      simp [r2] at h
    · have h : decide (r < G) = false := h
      rw [decide_eq_true r1] at h; cases h
    · have h : decide (0 < r) = false := h
      rw [decide_eq_true r0] at h; cases h
theorem v_law_any : ∀ ds M Q E, spAnyT ds M Q E → t_law_any (anyE Q E) (startA N_law_any ds) M := v_any 83 wInt id (by decide) (fun _ => .inl rfl) (fun _ => .inr rfl)
theorem v_law_of : ∀ ds M Q E, spOf ds M Q E → t_law_of (anyE Q E) (startA N_law_of ds) M := v_of
theorem v_law_deal : ∀ ds M Q E, spSrcT ds M Q E → t_law_deal (anyE Q E) (startA N_law_deal ds) M :=
  v_src (aOp bAddF (aOp oMul (aC (.int 40127)) (aVar 1)) (aC (.int 863))) 2147483579 61 (by decide) fun ns b cs M Q E h0 h1 q => ⟨MulOk.left (by decide) (by decide), q _ (by omega) (by omega)⟩
theorem len_power : ∀ ds M Q E, sp_power ds M Q E → ds.length = ps_power.length := by
  intro ds M Q E h; repeat (first | (obtain ⟨rfl, _⟩ := h; rfl) | (obtain ⟨_, h⟩ := h))
theorem len_inverse : ∀ ds M Q E, sp_inverse ds M Q E → ds.length = ps_inverse.length := by
  intro ds M Q E h; repeat (first | (obtain ⟨rfl, _⟩ := h; rfl) | (obtain ⟨_, h⟩ := h))
theorem len_is_prime : ∀ ds M Q E, sp_is_prime ds M Q E → ds.length = ps_is_prime.length := by
  intro ds M Q E h; repeat (first | (obtain ⟨rfl, _⟩ := h; rfl) | (obtain ⟨_, h⟩ := h))
theorem len_law_deal : ∀ ds M Q E, spSrcT ds M Q E → ds.length = ps_law_deal.length := by
  intro ds M Q E h; repeat (first | (obtain ⟨rfl, _⟩ := h; rfl) | (obtain ⟨_, h⟩ := h))
theorem len_law_any : ∀ ds M Q E, spAnyT ds M Q E → ds.length = ps_law_any.length := by
  intro ds M Q E h; repeat (first | (obtain ⟨rfl, _⟩ := h; rfl) | (obtain ⟨_, h⟩ := h))
theorem len_law_of : ∀ ds M Q E, sp_law_of ds M Q E → ds.length = ps_law_of.length := by
  intro ds M Q E h; repeat (first | (obtain ⟨rfl, _⟩ := h; rfl) | (obtain ⟨_, h⟩ := h))
theorem len_law_is_prime : ∀ ds M Q E, sp_law_is_prime ds M Q E → ds.length = ps_law_is_prime.length := by
  intro ds M Q E h; repeat (first | (obtain ⟨rfl, _⟩ := h; rfl) | (obtain ⟨_, h⟩ := h))
theorem len_law_small : ∀ ds M Q E, sp_law_small ds M Q E → ds.length = ps_law_small.length := by
  intro ds M Q E h; repeat (first | (obtain ⟨rfl, _⟩ := h; rfl) | (obtain ⟨_, h⟩ := h))
theorem len_law_power : ∀ ds M Q E, sp_law_power ds M Q E → ds.length = ps_law_power.length := by
  intro ds M Q E h; repeat (first | (obtain ⟨rfl, _⟩ := h; rfl) | (obtain ⟨_, h⟩ := h))
theorem len_law : ∀ ds M Q E, sp_law ds M Q E → ds.length = ps_law.length := by
  intro ds M Q E h; repeat (first | (obtain ⟨rfl, _⟩ := h; rfl) | (obtain ⟨_, h⟩ := h))
end K06
/-! the end (printed by gen2.py) -/
namespace K06
open PySem PySem.Spec L2 HA
theorem all_mk {P : Program} {w : World} {K : PySem.W.Frag} {h : Heap} {mg : Str → Option Value} {fa : Addr} (X : K.In h) (G : h.Ns mainGlobals mg) (hfa : mg "law" = some (.ref fa))
    {f0 : Addr} {od0 an0 : Option Addr} {sl0 : Array (Option Value)} {oc0 kV0 dc0 pm0 cd0 ct0 : Value}
    {f1 : Addr} {od1 an1 : Option Addr} {sl1 : Array (Option Value)} {oc1 kV1 dc1 pm1 cd1 ct1 : Value}
    {f2 : Addr} {od2 an2 : Option Addr} {sl2 : Array (Option Value)} {oc2 kV2 dc2 pm2 cd2 ct2 : Value}
    {f3 : Addr} {od3 an3 : Option Addr} {sl3 : Array (Option Value)} {oc3 kV3 dc3 pm3 cd3 ct3 : Value}
    {f4 : Addr} {od4 an4 : Option Addr} {sl4 : Array (Option Value)} {oc4 kV4 dc4 pm4 cd4 ct4 : Value}
    {f5 : Addr} {od5 an5 : Option Addr} {sl5 : Array (Option Value)} {oc5 kV5 dc5 pm5 cd5 ct5 : Value}
    {f6 : Addr} {od6 an6 : Option Addr} {sl6 : Array (Option Value)} {oc6 kV6 dc6 pm6 cd6 ct6 : Value}
    {f7 : Addr} {od7 an7 : Option Addr} {sl7 : Array (Option Value)} {oc7 kV7 dc7 pm7 cd7 ct7 : Value}
    {f8 : Addr} {od8 an8 : Option Addr} {sl8 : Array (Option Value)} {oc8 kV8 dc8 pm8 cd8 ct8 : Value}
    {f9 : Addr} {od9 an9 : Option Addr} {sl9 : Array (Option Value)} {oc9 kV9 dc9 pm9 cd9 ct9 : Value}
    (a0 : PySem.W.nsIn K mainGlobals "power" = some (some (.ref f0)))
    (l0 : K.lookup f0 = some ⟨oc0, od0, .func (PySem.W.fnOf "power" "power" (defArgs st_power) (defBody st_power) (defScope st_power) .none kV0 dc0 pm0 an0 cd0 ct0), sl0⟩)
    (c0 : PySem.W.codeIn K cd0 "power" = true)
    (k0 : PySem.W.keepIn K (.ref f0) = true)
    (a1 : PySem.W.nsIn K mainGlobals "inverse" = some (some (.ref f1)))
    (l1 : K.lookup f1 = some ⟨oc1, od1, .func (PySem.W.fnOf "inverse" "inverse" (defArgs st_inverse) (defBody st_inverse) (defScope st_inverse) .none kV1 dc1 pm1 an1 cd1 ct1), sl1⟩)
    (c1 : PySem.W.codeIn K cd1 "inverse" = true)
    (k1 : PySem.W.keepIn K (.ref f1) = true)
    (a2 : PySem.W.nsIn K mainGlobals "is_prime" = some (some (.ref f2)))
    (l2 : K.lookup f2 = some ⟨oc2, od2, .func (PySem.W.fnOf "is_prime" "is_prime" (defArgs st_is_prime) (defBody st_is_prime) (defScope st_is_prime) .none kV2 dc2 pm2 an2 cd2 ct2), sl2⟩)
    (c2 : PySem.W.codeIn K cd2 "is_prime" = true)
    (k2 : PySem.W.keepIn K (.ref f2) = true)
    (a3 : PySem.W.nsIn K mainGlobals "_law_deal" = some (some (.ref f3)))
    (l3 : K.lookup f3 = some ⟨oc3, od3, .func (PySem.W.fnOf "_law_deal" "_law_deal" (defArgs st_law_deal) (defBody st_law_deal) (defScope st_law_deal) .none kV3 dc3 pm3 an3 cd3 ct3), sl3⟩)
    (c3 : PySem.W.codeIn K cd3 "_law_deal" = true)
    (k3 : PySem.W.keepIn K (.ref f3) = true)
    (a4 : PySem.W.nsIn K mainGlobals "_law_any" = some (some (.ref f4)))
    (l4 : K.lookup f4 = some ⟨oc4, od4, .func (PySem.W.fnOf "_law_any" "_law_any" (defArgs st_law_any) (defBody st_law_any) (defScope st_law_any) .none kV4 dc4 pm4 an4 cd4 ct4), sl4⟩)
    (c4 : PySem.W.codeIn K cd4 "_law_any" = true)
    (k4 : PySem.W.keepIn K (.ref f4) = true)
    (a5 : PySem.W.nsIn K mainGlobals "_law_of" = some (some (.ref f5)))
    (l5 : K.lookup f5 = some ⟨oc5, od5, .func (PySem.W.fnOf "_law_of" "_law_of" (defArgs st_law_of) (defBody st_law_of) (defScope st_law_of) .none kV5 dc5 pm5 an5 cd5 ct5), sl5⟩)
    (c5 : PySem.W.codeIn K cd5 "_law_of" = true)
    (k5 : PySem.W.keepIn K (.ref f5) = true)
    (a6 : PySem.W.nsIn K mainGlobals "_law_is_prime" = some (some (.ref f6)))
    (l6 : K.lookup f6 = some ⟨oc6, od6, .func (PySem.W.fnOf "_law_is_prime" "_law_is_prime" (defArgs st_law_is_prime) (defBody st_law_is_prime) (defScope st_law_is_prime) .none kV6 dc6 pm6 an6 cd6 ct6), sl6⟩)
    (c6 : PySem.W.codeIn K cd6 "_law_is_prime" = true)
    (k6 : PySem.W.keepIn K (.ref f6) = true)
    (a7 : PySem.W.nsIn K mainGlobals "_law_small" = some (some (.ref f7)))
    (l7 : K.lookup f7 = some ⟨oc7, od7, .func (PySem.W.fnOf "_law_small" "_law_small" (defArgs st_law_small) (defBody st_law_small) (defScope st_law_small) .none kV7 dc7 pm7 an7 cd7 ct7), sl7⟩)
    (c7 : PySem.W.codeIn K cd7 "_law_small" = true)
    (k7 : PySem.W.keepIn K (.ref f7) = true)
    (a8 : PySem.W.nsIn K mainGlobals "_law_power" = some (some (.ref f8)))
    (l8 : K.lookup f8 = some ⟨oc8, od8, .func (PySem.W.fnOf "_law_power" "_law_power" (defArgs st_law_power) (defBody st_law_power) (defScope st_law_power) .none kV8 dc8 pm8 an8 cd8 ct8), sl8⟩)
    (c8 : PySem.W.codeIn K cd8 "_law_power" = true)
    (k8 : PySem.W.keepIn K (.ref f8) = true)
    (a9 : PySem.W.nsIn K mainGlobals "law" = some (some (.ref f9)))
    (l9 : K.lookup f9 = some ⟨oc9, od9, .func (PySem.W.fnOf "law" "law" (defArgs st_law) (defBody st_law) (defScope st_law) .none kV9 dc9 pm9 an9 cd9 ct9), sl9⟩)
    (c9 : PySem.W.codeIn K cd9 "law" = true)
    (k9 : PySem.W.keepIn K (.ref f9) = true)
    (z_abs : PySem.W.nsIn K mainGlobals "abs" = some none)
    (z_int : PySem.W.nsIn K mainGlobals "int" = some none)
    (z_len : PySem.W.nsIn K mainGlobals "len" = some none)
    (z_range : PySem.W.nsIn K mainGlobals "range" = some none)
    (z_min : PySem.W.nsIn K mainGlobals "min" = some none)
    (z_repr : PySem.W.nsIn K mainGlobals "repr" = some none)
    (z_isinstance : PySem.W.nsIn K mainGlobals "isinstance" = some none)
    (z_bool : PySem.W.nsIn K mainGlobals "bool" = some none) :
    ∃ fd : FuncData, (∀ (s : Shared) (v : Value), BindsTo s fd ⟨[v], []⟩ [("script", v)]) ∧ ∀ base : Heap, K.In base → base.Ns mainGlobals mg → FA P w K mg base 4 fa fd ["script"] spLaw := by
  have e := hfa.symm.trans (PySem.W.mg_of X G a9)
  cases e
  have nb : Nb mg := ⟨PySem.W.mg_none_of X G z_abs, PySem.W.mg_none_of X G z_int, PySem.W.mg_none_of X G z_len, PySem.W.mg_none_of X G z_range, PySem.W.mg_none_of X G z_min, PySem.W.mg_none_of X G z_repr, PySem.W.mg_none_of X G z_isinstance, PySem.W.mg_none_of X G z_bool⟩
  refine ⟨PySem.W.fnOf "law" "law" (defArgs st_law) (defBody st_law) (defScope st_law) .none kV9 dc9 pm9 an9 cd9 ct9, fun s v => .of_eq rfl, fun base _ _ => ?_⟩
  have F0 := fun_mk (st := st_power) l0 c0 k0
  have A0 : FA P w K mg base 1 f0 _ ps_power sp_power := fa_pure F0 sc_power (len_power) (d_power nb ) v_power
  have C0 : Cal P w K mg base 1 "power" st_power ps_power sp_power := ⟨f0, _, F0, PySem.W.mg_of X G a0, A0⟩
  have F1 := fun_mk (st := st_inverse) l1 c1 k1
  have A1 : FA P w K mg base 1 f1 _ ps_inverse sp_inverse := fa_pure F1 sc_inverse (len_inverse) (d_inverse nb ) v_inverse
  have C1 : Cal P w K mg base 1 "inverse" st_inverse ps_inverse sp_inverse := ⟨f1, _, F1, PySem.W.mg_of X G a1, A1⟩
  have F2 := fun_mk (st := st_is_prime) l2 c2 k2
  have A2 : FA P w K mg base 1 f2 _ ps_is_prime sp_is_prime := fa_pure F2 sc_is_prime (len_is_prime) (d_is_prime nb ) v_is_prime
  have C2 : Cal P w K mg base 1 "is_prime" st_is_prime ps_is_prime sp_is_prime := ⟨f2, _, F2, PySem.W.mg_of X G a2, A2⟩
  have F3 := fun_mk (st := st_law_deal) l3 c3 k3
  have A3 : FA P w K mg base 1 f3 _ ps_law_deal sp_law_deal := fa_src (fa_any F3 sc_law_deal (len_law_deal) (d_law_deal nb ) v_law_deal)
  have C3 : Cal P w K mg base 1 "_law_deal" st_law_deal ps_law_deal sp_law_deal := ⟨f3, _, F3, PySem.W.mg_of X G a3, A3⟩
  have F4 := fun_mk (st := st_law_any) l4 c4 k4
  have A4 : FA P w K mg base 1 f4 _ ps_law_any sp_law_any := fa_draw (fa_any F4 sc_law_any (len_law_any) (d_law_any nb ) v_law_any)
  have C4 : Cal P w K mg base 1 "_law_any" st_law_any ps_law_any sp_law_any := ⟨f4, _, F4, PySem.W.mg_of X G a4, A4⟩
  have F5 := fun_mk (st := st_law_of) l5 c5 k5
  have A5 : FA P w K mg base 2 f5 _ ps_law_of sp_law_of := fa_any F5 sc_law_of (len_law_of) (d_law_of nb C4) v_law_of
  have C5 : Cal P w K mg base 2 "_law_of" st_law_of ps_law_of sp_law_of := ⟨f5, _, F5, PySem.W.mg_of X G a5, A5⟩
  have F6 := fun_mk (st := st_law_is_prime) l6 c6 k6
  have A6 : FA P w K mg base 1 f6 _ ps_law_is_prime sp_law_is_prime := fa_pure F6 sc_law_is_prime (len_law_is_prime) (d_law_is_prime nb ) v_law_is_prime
  have C6 : Cal P w K mg base 1 "_law_is_prime" st_law_is_prime ps_law_is_prime sp_law_is_prime := ⟨f6, _, F6, PySem.W.mg_of X G a6, A6⟩
  have F7 := fun_mk (st := st_law_small) l7 c7 k7
  have A7 : FA P w K mg base 3 f7 _ ps_law_small sp_law_small := fa_pure F7 sc_law_small (len_law_small) (d_law_small nb C4 C6 C5) v_law_small
  have C7 : Cal P w K mg base 3 "_law_small" st_law_small ps_law_small sp_law_small := ⟨f7, _, F7, PySem.W.mg_of X G a7, A7⟩
  have F8 := fun_mk (st := st_law_power) l8 c8 k8
  have A8 : FA P w K mg base 1 f8 _ ps_law_power sp_law_power := fa_pure F8 sc_law_power (len_law_power) (d_law_power nb ) v_law_power
  have C8 : Cal P w K mg base 1 "_law_power" st_law_power ps_law_power sp_law_power := ⟨f8, _, F8, PySem.W.mg_of X G a8, A8⟩
  have F9 := fun_mk (st := st_law) l9 c9 k9
  have A9 : FA P w K mg base 4 fa _ ps_law sp_law := fa_any F9 sc_law (len_law) (d_law nb C3 C7 C5 C4 C0 C8 C1 C2 C6) v_law
  exact A9
end K06
open PySem PySem.W PyProof.Rows in
set_option maxRecDepth 100000 in
set_option maxHeartbeats 0 in
theorem PySem.Challenge.cw_putinonce_k06_powers_and_inverses_holds : PySem.Challenge.rw_putinonce_k06_powers_and_inverses.Holds := by
  w_on; o_law; k_head; (case hw => w_witness2)
  k_fill
  refine HA.walk_A (k := 4) (x := "script") (l := PySem.Challenge.rw_putinonce_k06_powers_and_inverses) rfl rfl ⟨rfl, by decide, by decide⟩ (fun w h Y => PySem.W.kIn_of Y) ?F
  case F =>
    intro w mg fa h KX G hmg
    refine' K06.all_mk KX G hmg ?a0 ?l0 ?c0 ?k0 ?a1 ?l1 ?c1 ?k1 ?a2 ?l2 ?c2 ?k2 ?a3 ?l3 ?c3 ?k3 ?a4 ?l4 ?c4 ?k4 ?a5 ?l5 ?c5 ?k5 ?a6 ?l6 ?c6 ?k6 ?a7 ?l7 ?c7 ?k7 ?a8 ?l8 ?c8 ?k8 ?a9 ?l9 ?c9 ?k9 ?z_abs ?z_int ?z_len ?z_range ?z_min ?z_repr ?z_isinstance ?z_bool
    (case a0 => k_is)
    (case l0 => k_is)
    (case c0 => k_is)
    (case k0 => k_is)
    (case a1 => k_is)
    (case l1 => k_is)
    (case c1 => k_is)
    (case k1 => k_is)
    (case a2 => k_is)
    (case l2 => k_is)
    (case c2 => k_is)
    (case k2 => k_is)
    (case a3 => k_is)
    (case l3 => k_is)
    (case c3 => k_is)
    (case k3 => k_is)
    (case a4 => k_is)
    (case l4 => k_is)
    (case c4 => k_is)
    (case k4 => k_is)
    (case a5 => k_is)
    (case l5 => k_is)
    (case c5 => k_is)
    (case k5 => k_is)
    (case a6 => k_is)
    (case l6 => k_is)
    (case c6 => k_is)
    (case k6 => k_is)
    (case a7 => k_is)
    (case l7 => k_is)
    (case c7 => k_is)
    (case k7 => k_is)
    (case a8 => k_is)
    (case l8 => k_is)
    (case c8 => k_is)
    (case k8 => k_is)
    (case a9 => k_is)
    (case l9 => k_is)
    (case c9 => k_is)
    (case k9 => k_is)
    (case z_abs => k_is)
    (case z_int => k_is)
    (case z_len => k_is)
    (case z_range => k_is)
    (case z_min => k_is)
    (case z_repr => k_is)
    (case z_isinstance => k_is)
    (case z_bool => k_is)
