import PyProof.Rows.All
import Wide.All
import OpenK.AllK
import Wide.FinOn
import HandS.ForMost
import HandS.EndBits
import HandS.Wide
import HandS.WideBits
import HandS.TupAny
import HandS.TupLe
import HandS.Style
import HandS.Flow
import HandS.Zip
import HandS.More
import HandS.Exc
import HandS.TryOnly
import HandS.ExcOwn
import HandS.WordsExc
import HandS.TryMany
import HandS.Lambda
import HandS.IsInst
import PyProof.ReprLen
import PyProof.Rows.ChunkEnd
import HandS.TupMul
import KE.BitLaws
import HandS.SortInts
import HandS.ExcSuper
import KE.KSuper
import KE.KExcIs
import KE.GoesEnum
import KE.KTupSum
import PyProof.NeKinds
import HandS.Defaults
import HandS.Conv
import PyProof.StrOps2
import KE.OsArith
import PySem.Challenge.RW_putinonce_k15_quarters_and_states
set_option Elab.async false
set_option linter.all false
set_option autoImplicit false
set_option maxRecDepth 100000
set_option maxHeartbeats 4000000
namespace HA
abbrev Wq {P : Prop} (_p : P) : Prop := P
theorem Wq.get {P : Prop} {p : P} : Wq p := p
end HA
/-! A1: abstract data (trees), abstract memory, and how they lie in the layer's heap. -/
namespace HA
open PySem PySem.Spec PyProof.Rows L2

/-- a value as a tree: tuples and frozen lists by their things, changeable objects by address -/
inductive D where
  | non | bl (b : Bool) | int (i : Int) | str (x : Str) | tup (xs : List D) | lst (xs : List D) | frz (xs : List D) | ref (a : Addr) | ty (n : String)

/-- a changeable object -/
inductive Cell where
  | lst (xs : List D)
  | ins (C : Addr) (fs : List (Str × D))
  | deal (l : Addr)
  | pool
  | tab (q : Str)
  | rng (lo hi : Int)
  | set (S : Int → Bool) (n : Nat)
  | dic (kvs : List (Key × D))
  | dtp (kvs : List (List Key × D))
abbrev Mem := Addr → Option Cell
def mset (M : Mem) (a : Addr) (c : Cell) : Mem := fun b => if b = a then some c else M b
theorem mset_same {M : Mem} {a : Addr} {c : Cell} : mset M a c a = some c := by simp [mset]
theorem mset_ne {M : Mem} {a b : Addr} {c : Cell} (h : b ≠ a) : mset M a c b = M b := by simp [mset, h]
theorem mset_mset {M : Mem} {a : Addr} {c c' : Cell} : mset (mset M a c) a c' = mset M a c' := by
  funext b; by_cases h : b = a <;> simp [mset, h]
theorem mset_comm {M : Mem} {a b : Addr} {c c' : Cell} (h : a ≠ b) : mset (mset M a c) b c' = mset (mset M b c') a c := (by exact HA.Wq.get : @HA.Wq (mset (mset M a c) b c' = mset (mset M b c') a c) (by
  funext z
  by_cases h1 : z = a
  · subst h1; rw [mset_ne h, mset_same, mset_same]
  · by_cases h2 : z = b
    · subst h2; rw [mset_same, mset_ne h1, mset_same]
    · rw [mset_ne h2, mset_ne h1, mset_ne h1, mset_ne h2]))
theorem mset_self {M : Mem} {a : Addr} {c : Cell} (h : M a = some c) : mset M a c = M := (by exact HA.Wq.get : @HA.Wq (mset M a c = M) (by
  funext z
  by_cases h1 : z = a
  · subst h1; rw [mset_same, h]
  · rw [mset_ne h1]))
/-- more is known -/
def MLe (M M' : Mem) : Prop := ∀ a c, M a = some c → M' a = some c
theorem MLe.refl (M : Mem) : MLe M M := fun _ _ h => h
theorem MLe.trans {M N O : Mem} (h : MLe M N) (k : MLe N O) : MLe M O := fun a c e => k a c (h a c e)
theorem MLe.new {M : Mem} {a : Addr} {c : Cell} (h : M a = none) : MLe M (mset M a c) := fun b d e => by
  rw [mset_ne (fun z => by subst z; rw [h] at e; cases e)]; exact e
theorem MLe.new2 {M N : Mem} {a : Addr} {c : Cell} (h : N a = none) (k : MLe M N) : MLe M (mset N a c) := k.trans (.new h)
theorem none_ne {M : Mem} {a b : Addr} {c : Cell} (h : M a = none) (k : M b = some c) : b ≠ a := fun z => by
  subst z; rw [h] at k; cases k

/-- a tuple: laid in the call, or of the written part -/
def TpAt (K : PySem.W.Frag) (G : Hp) (a : Addr) (xs : List V) : Prop :=
  G a = some (.tup xs) ∨ ∃ (o : Obj) (its : Array Value) (n : Nat), K.lookup a = some o ∧ o.cls = .type "tuple" ∧ o.data = .seq its n ∧ its.size ≤ sizeLine ∧ Vals xs its.toList
theorem TpAt.sq {K : PySem.W.Frag} {G : Hp} {a : Addr} {xs : List V} (h : TpAt K G a xs) : SqT K G a xs := h.elim (fun z => .inl (.inl z)) .inr
theorem TpAt.up {K : PySem.W.Frag} {G G' : Hp} {a : Addr} {xs : List V} (e : Same G G') (h : TpAt K G a xs) : TpAt K G' a xs := h.elim (fun z => .inl (e _ _ z)) .inr
mutual
/-- d lies at v, in the frozen heap G -/
inductive Rp (K : PySem.W.Frag) (G : Hp) : D → V → Prop
  | non : Rp K G .non .non
  | bl (b : Bool) : Rp K G (.bl b) (.bl b)
  | int (i : Int) : Rp K G (.int i) (.int i)
  | str (x : Str) : Rp K G (.str x) (.str x)
  | tup {a : Addr} {vs : List V} {ds : List D} : TpAt K G a vs → RpA K G ds vs → Rp K G (.tup ds) (.ref a)
  | lst {a : Addr} {vs : List V} {ds : List D} : G a = some (.lst vs) → RpA K G ds vs → Rp K G (.lst ds) (.ref a)
  | frz {a : Addr} {vs : List V} {ds : List D} : SqL K G a vs → RpA K G ds vs → Rp K G (.frz ds) (.ref a)
  | ref (a : Addr) : Rp K G (.ref a) (.ref a)
  | ty (n : String) : Rp K G (.ty n) (.ty n)
inductive RpA (K : PySem.W.Frag) (G : Hp) : List D → List V → Prop
  | nil : RpA K G [] []
  | cons {d : D} {v : V} {ds : List D} {vs : List V} : Rp K G d v → RpA K G ds vs → RpA K G (d :: ds) (v :: vs)
end

theorem same_sqt {K : PySem.W.Frag} {G G' : Hp} {a : Addr} {xs : List V} (e : Same G G') (h : SqT K G a xs) : SqT K G' a xs := (by exact HA.Wq.get : @HA.Wq (SqT K G' a xs) (by
  rcases h with (h | ⟨o, h⟩) | h
  · exact Or.inl (.inl (e _ _ h))
  · exact Or.inl (.inr ⟨o, e _ _ h⟩)
  · exact Or.inr h))
mutual
theorem Rp.up {K : PySem.W.Frag} {G G' : Hp} (e : Same G G') : ∀ {d : D} {v : V}, Rp K G d v → Rp K G' d v
  | _, _, .non => .non
  | _, _, .bl b => .bl b
  | _, _, .int i => .int i
  | _, _, .str x => .str x
  | _, _, .tup h k => .tup (h.up e) (RpA.up e k)
  | _, _, .lst h k => .lst (e _ _ h) (RpA.up e k)
  | _, _, .frz h k => .frz (e.seq h) (RpA.up e k)
  | _, _, .ref a => .ref a
  | _, _, .ty n => .ty n
theorem RpA.up {K : PySem.W.Frag} {G G' : Hp} (e : Same G G') : ∀ {d : List D} {v : List V}, RpA K G d v → RpA K G' d v
  | _, _, .nil => .nil
  | _, _, .cons h k => .cons (Rp.up e h) (RpA.up e k)
end
section
variable {K : PySem.W.Frag} {G : Hp}
theorem RpA.len : ∀ {ds : List D} {vs : List V}, RpA K G ds vs → ds.length = vs.length
  | _, _, .nil => rfl
  | _, _, .cons _ k => by simp [RpA.len k]
theorem RpA.get : ∀ {ds : List D} {vs : List V} {i : Nat} {d : D}, RpA K G ds vs → ds[i]? = some d → ∃ v, vs[i]? = some v ∧ Rp K G d v
  | _, _, _, _, .nil, e => by simp at e
  | _, _, 0, _, .cons h _, e => by simp at e; subst e; exact ⟨_, rfl, h⟩
  | _, _, i + 1, d, .cons _ k, e => by
    obtain ⟨v, h1, h2⟩ := RpA.get (i := i) (d := d) k (by simpa using e)
    exact ⟨v, by simpa using h1, h2⟩
theorem RpA.getV : ∀ {ds : List D} {vs : List V} {i : Nat} {v : V}, RpA K G ds vs → vs[i]? = some v → ∃ d, ds[i]? = some d ∧ Rp K G d v
  | _, _, _, _, .nil, e => by simp at e
  | _, _, 0, _, .cons h _, e => by simp at e; subst e; exact ⟨_, rfl, h⟩
  | _, _, i + 1, d, .cons _ k, e => by
    obtain ⟨v, h1, h2⟩ := RpA.getV (i := i) (v := d) k (by simpa using e)
    exact ⟨v, by simpa using h1, h2⟩
theorem RpA.app : ∀ {ds es : List D} {vs ws : List V}, RpA K G ds vs → RpA K G es ws → RpA K G (ds ++ es) (vs ++ ws)
  | _, _, _, _, .nil, k => k
  | _, _, _, _, .cons h t, k => .cons h (RpA.app t k)
theorem RpA.take : ∀ {ds : List D} {vs : List V} (n : Nat), RpA K G ds vs → RpA K G (ds.take n) (vs.take n)
  | _, _, 0, _ => by simpa using RpA.nil
  | _, _, n + 1, .nil => by simpa using RpA.nil
  | _, _, n + 1, .cons h t => .cons h (RpA.take n t)
theorem RpA.drop : ∀ {ds : List D} {vs : List V} (n : Nat), RpA K G ds vs → RpA K G (ds.drop n) (vs.drop n)
  | _, _, 0, h => h
  | _, _, n + 1, .nil => by simpa using RpA.nil
  | _, _, n + 1, .cons h t => RpA.drop n t
theorem RpA.set {d : D} {v : V} (r : Rp K G d v) : ∀ {ds : List D} {vs : List V} (i : Nat), RpA K G ds vs → RpA K G (ds.set i d) (vs.set i v)
  | _, _, _, .nil => .nil
  | _, _, 0, .cons _ t => .cons r t
  | _, _, i + 1, .cons h t => .cons h (RpA.set r i t)
theorem RpA.reverse {ds : List D} {vs : List V} (h : RpA K G ds vs) : RpA K G ds.reverse vs.reverse := (by exact HA.Wq.get : @HA.Wq (RpA K G ds.reverse vs.reverse) (by
  induction ds generalizing vs with
  | nil => cases h; exact .nil
  | cons d t ih =>
    cases h with
    | cons a b => simp only [List.reverse_cons]; exact (ih b).app (.cons a .nil)))
theorem RpA.dropLast {ds : List D} {vs : List V} (h : RpA K G ds vs) : RpA K G ds.dropLast vs.dropLast := by
  rw [List.dropLast_eq_take, List.dropLast_eq_take, h.len]; exact h.take _
theorem RpA.rep {ds : List D} {vs : List V} (h : RpA K G ds vs) : ∀ n : Nat, RpA K G (List.replicate n ds).flatten (List.replicate n vs).flatten
  | 0 => .nil
  | n + 1 => by simp only [List.replicate_succ, List.flatten_cons]; exact h.app (RpA.rep h n)
theorem RpA.ints : ∀ ns : List Int, RpA K G (ns.map D.int) (ns.map V.int)
  | [] => .nil
  | n :: r => .cons (.int n) (RpA.ints r)
theorem RpA.of_ints : ∀ {ns : List Int} {vs : List V}, RpA K G (ns.map D.int) vs → vs = ns.map V.int
  | [], _, h => by cases h; rfl
  | n :: r, _, h => by
    cases h with
    | cons a b => cases a; rw [RpA.of_ints b]; rfl
theorem RpA.of_bls : ∀ {ns : List Bool} {vs : List V}, RpA K G (ns.map D.bl) vs → vs = ns.map V.bl
  | [], _, h => by cases h; rfl
  | n :: r, _, h => by
    cases h with
    | cons a b => cases a; rw [RpA.of_bls b]; rfl
theorem RpA.of_strs : ∀ {ns : List Str} {vs : List V}, RpA K G (ns.map D.str) vs → vs = ns.map V.str
  | [], _, h => by cases h; rfl
  | n :: r, _, h => by
    cases h with
    | cons a b => cases a; rw [RpA.of_strs b]; rfl
end

/-- attributes by name -/
abbrev FR (K : PySem.W.Frag) (G : Hp) : List (Str × D) → List (Str × V) → Prop := Paired fun (p : Str × D) (q : Str × V) => p.1 = q.1 ∧ Rp K G p.2 q.2
def putD (f : Str) (v : D) : List (Str × D) → List (Str × D)
  | [] => [(f, v)]
  | (g, x) :: r => if g = f then (g, v) :: r else (g, x) :: putD f v r
theorem FR.up {K : PySem.W.Frag} {G G' : Hp} {fs : List (Str × D)} {vs : List (Str × V)} (e : Same G G') (h : FR K G fs vs) : FR K G' fs vs := Paired.mapP h fun _ _ z => ⟨z.1, z.2.up e⟩
theorem FR.look {K : PySem.W.Frag} {G : Hp} {f : Str} {d : D} : ∀ {fs : List (Str × D)} {vs : List (Str × V)}, FR K G fs vs → fs.lookup f = some d → ∃ v, vs.lookup f = some v ∧ Rp K G d v
  | _, _, .nil, e => by simp at e
  | (g, x) :: r, _, .cons h t, e => by
    rename_i q _
    obtain ⟨g', y⟩ := q
    obtain ⟨h1, h2⟩ := h
    dsimp only at h1 h2
    subst h1
    simp only [List.lookup_cons] at e ⊢
    cases hb : f == g with
    | true => rw [hb] at e; cases e; exact ⟨y, rfl, h2⟩
    | false => rw [hb] at e; exact FR.look t e
theorem FR.nolook {K : PySem.W.Frag} {G : Hp} {f : Str} : ∀ {fs : List (Str × D)} {vs : List (Str × V)}, FR K G fs vs → fs.lookup f = none → vs.lookup f = none
  | _, _, .nil, e => rfl
  | (g, x) :: r, _, .cons h t, e => by
    rename_i q _
    obtain ⟨g', y⟩ := q
    obtain ⟨h1, h2⟩ := h
    dsimp only at h1 h2
    subst h1
    simp only [List.lookup_cons] at e ⊢
    cases hb : f == g with
    | true => rw [hb] at e; cases e
    | false => rw [hb] at e; exact FR.nolook t e
theorem FR.put {K : PySem.W.Frag} {G : Hp} {f : Str} {d : D} {v : V} (r : Rp K G d v) : ∀ {fs : List (Str × D)} {vs : List (Str × V)}, FR K G fs vs → FR K G (putD f d fs) (putF f v vs)
  | _, _, .nil => .cons ⟨rfl, r⟩ .nil
  | (g, x) :: r', _, .cons h t => by
    rename_i q _
    obtain ⟨g', y⟩ := q
    obtain ⟨h1, h2⟩ := h
    dsimp only at h1 h2
    subst h1
    simp only [putD, putF]
    by_cases hg : g = f
    · rw [if_pos hg, if_pos hg]; exact .cons ⟨rfl, r⟩ t
    · rw [if_neg hg, if_neg hg]; exact .cons ⟨rfl, h2⟩ (FR.put r t)
theorem FR.len {K : PySem.W.Frag} {G : Hp} {fs : List (Str × D)} {vs : List (Str × V)} (h : FR K G fs vs) : fs.length = vs.length := Paired.length h

/-- things by keys -/
abbrev DRp (K : PySem.W.Frag) (G : Hp) {κ : Type} : List (κ × D) → List (κ × V) → Prop := Paired fun (p : κ × D) (q : κ × V) => p.1 = q.1 ∧ Rp K G p.2 q.2
theorem DRp.up {K : PySem.W.Frag} {G G' : Hp} {κ : Type} {fs : List (κ × D)} {vs : List (κ × V)} (e : Same G G') (h : DRp K G fs vs) : DRp K G' fs vs := Paired.mapP h fun _ _ z => ⟨z.1, z.2.up e⟩
/-- how big a drawn cell may be -/
@[irreducible] def big : Nat := 1048576
/-- the cell c lies at a -/
def COk (K : PySem.W.Frag) (G H : Hp) (a : Addr) : Cell → Prop
  | .lst xs => ∃ vs, RpA K G xs vs ∧ H a = some (.lst vs)
  | .ins C fs => ∃ dx vs, FR K G fs vs ∧ H a = some (.ins C dx vs)
  | .deal l => ∃ n : Int, (0 ≤ n ∧ n < 2147483647) ∧ H a = some (.lst [.ref l, .int n])
  | .pool => ∃ ns : List Int, ns.length ≤ 63 ∧ (∀ n ∈ ns, 0 ≤ n ∧ n.natAbs < 2 ^ big) ∧ H a = some (.lst (ns.map V.int))
  | .tab q => ∃ us : Array Value, H a = some (.tbl us) ∧ TriplesOk us.toList ∧ ∀ (p : Pos) (u : Value), codeAmong p us.toList = some u → ∃ c, u = .ref c ∧ G c = some (LamX.CodeO c q)
  | .rng lo hi => H a = some (.rng lo hi)
  | .set S n => H a = some (.set S n)
  | .dic kvs => ∃ vs : List (Key × V), DRp K G kvs vs ∧ H a = some (.dK vs)
  | .dtp kvs => ∃ vs : List (List Key × V), DRp K G kvs vs ∧ H a = some (.dT vs)
theorem COk.up {K : PySem.W.Frag} {G G' H H' : Hp} {a : Addr} {c : Cell} (e : Same G G') (h : COk K G H a c) (k : H' a = H a) : COk K G' H' a c := (by exact HA.Wq.get : @HA.Wq (COk K G' H' a c) (by
  cases c with
  | lst xs => obtain ⟨vs, r, z⟩ := h; exact ⟨vs, r.up e, k.trans z⟩
  | ins C fs => obtain ⟨dx, vs, r, z⟩ := h; exact ⟨dx, vs, r.up e, k.trans z⟩
  | deal l => obtain ⟨n, r, z⟩ := h; exact ⟨n, r, k.trans z⟩
  | pool => obtain ⟨ns, r1, r2, z⟩ := h; exact ⟨ns, r1, r2, k.trans z⟩
  | tab q => obtain ⟨us, z, r1, r2⟩ := h; exact ⟨us, k.trans z, r1, fun p u hu => let ⟨c, e1, e2⟩ := r2 p u hu; ⟨c, e1, e _ _ e2⟩⟩
  | rng lo hi => exact k.trans h
  | set S n => exact k.trans h
  | dic kvs => obtain ⟨vs, r, z⟩ := h; exact ⟨vs, r.up e, k.trans z⟩
  | dtp kvs => obtain ⟨vs, r, z⟩ := h; exact ⟨vs, r.up e, k.trans z⟩))
theorem COk.some {K : PySem.W.Frag} {G H : Hp} {a : Addr} {c : Cell} (h : COk K G H a c) : ∃ o, H a = Option.some o := (by exact HA.Wq.get : @HA.Wq (∃ o, H a = Option.some o) (by
  cases c with
  | lst xs => obtain ⟨vs, r, z⟩ := h; exact ⟨_, z⟩
  | ins C fs => obtain ⟨dx, vs, r, z⟩ := h; exact ⟨_, z⟩
  | deal l => obtain ⟨n, r, z⟩ := h; exact ⟨_, z⟩
  | pool => obtain ⟨ns, r1, r2, z⟩ := h; exact ⟨_, z⟩
  | tab q => obtain ⟨us, z, r⟩ := h; exact ⟨_, z⟩
  | rng lo hi => exact ⟨_, h⟩
  | set S n => exact ⟨_, h⟩
  | dic kvs => obtain ⟨vs, r, z⟩ := h; exact ⟨_, z⟩
  | dtp kvs => obtain ⟨vs, r, z⟩ := h; exact ⟨_, z⟩))
/-- the memory M lies in the heap H over the frozen part G -/
structure SM (K : PySem.W.Frag) (G : Hp) (M : Mem) (H : Hp) : Prop where
  same : Same G H
  cell : ∀ a c, M a = some c → G a = none ∧ COk K G H a c
section
variable {K : PySem.W.Frag} {G H H' : Hp} {M M' : Mem} {a p : Addr} {c : Cell} {o : HO}
theorem SM.drop (s : SM K G M H) (h : MLe M' M) : SM K G M' H := ⟨s.same, fun a c e => s.cell a c (h a c e)⟩
theorem SM.free (s : SM K G M H) (h : H p = none) : G p = none ∧ M p = none := (by exact HA.Wq.get : @HA.Wq (G p = none ∧ M p = none) (by
  refine ⟨s.same.free h, ?_⟩
  cases e : M p with
  | none => rfl
  | some c => obtain ⟨o, z⟩ := (s.cell p c e).2.some; rw [h] at z; cases z))
/-- all that was tracked stays as it is -/
theorem SM.ext (s : SM K G M H) (e : Same H H') : SM K G M H' := ⟨s.same.trans e, fun a c h => by
  obtain ⟨h1, h2⟩ := s.cell a c h
  obtain ⟨o, z⟩ := h2.some
  exact ⟨h1, h2.up (Same.refl G) ((e _ _ z).trans z.symm)⟩⟩
theorem same_upd {H : Hp} {p : Addr} {o : HO} (h : H p = none) : Same H (upd H p o) := fun b u e => by
  rw [upd_ne (ne_of_none e h)]; exact e
/-- a new frozen thing -/
theorem SM.frozen (s : SM K G M H) (h : H p = none) : SM K (upd G p o) M (upd H p o) := (by exact HA.Wq.get : @HA.Wq (SM K (upd G p o) M (upd H p o)) (by
  obtain ⟨g0, m0⟩ := s.free h
  refine ⟨fun b u e => ?_, fun a c e => ?_⟩
  · by_cases hb : b = p
    · subst hb; rw [upd_same] at e ⊢; exact e
    · rw [upd_ne hb] at e ⊢; exact s.same b u e
  · have ne : a ≠ p := fun z => by subst z; rw [m0] at e; cases e
    obtain ⟨h1, h2⟩ := s.cell a c e
    exact ⟨by rw [upd_ne ne]; exact h1, h2.up (same_upd g0) (upd_ne ne)⟩))
/-- a new cell -/
theorem SM.new (s : SM K G M H) (h : H p = none) (k : COk K G (upd H p o) p c) : SM K G (mset M p c) (upd H p o) := (by exact HA.Wq.get : @HA.Wq (SM K G (mset M p c) (upd H p o)) (by
  obtain ⟨g0, m0⟩ := s.free h
  refine ⟨s.same.trans (same_upd h), fun a c' e => ?_⟩
  by_cases ha : a = p
  · subst ha; rw [mset_same] at e; cases e; exact ⟨g0, k⟩
  · rw [mset_ne ha] at e
    obtain ⟨h1, h2⟩ := s.cell a c' e
    exact ⟨h1, h2.up (Same.refl G) (upd_ne ha)⟩))
/-- a cell is written -/
theorem SM.write {c' : Cell} (s : SM K G M H) (h : M a = some c') (k : COk K G (upd H a o) a c) : SM K G (mset M a c) (upd H a o) := (by exact HA.Wq.get : @HA.Wq (SM K G (mset M a c) (upd H a o)) (by
  obtain ⟨g0, _⟩ := s.cell a c' h
  refine ⟨fun b u e => ?_, fun b d e => ?_⟩
  · rw [upd_ne (fun z => by subst z; rw [g0] at e; cases e)]; exact s.same b u e
  · by_cases hb : b = a
    · subst hb; rw [mset_same] at e; cases e; exact ⟨g0, k⟩
    · rw [mset_ne hb] at e
      obtain ⟨h1, h2⟩ := s.cell b d e
      exact ⟨h1, h2.up (Same.refl G) (upd_ne hb)⟩))
end

/-! ### slots, and the readings over trees -/
abbrev AS := List (Option D)
abbrev DK := D → Mem → Prop
/-- what is wanted of an exception: its class, its fields -/
abbrev AX := Addr → List (Str × D) → Mem → Prop
abbrev AXs := AS → AX
structure SS (K : PySem.W.Frag) (B G : Hp) (σ : AS) (M : Mem) (s : List (Option V)) (H : Hp) : Prop where
  base : Same B G
  mem : SM K G M H
  len : σ.length = s.length
  sl : ∀ (i : Nat) (d : D), σ[i]? = some (some d) → ∃ v, s[i]? = some (some v) ∧ Rp K G d v
/-- what is wanted, of a value in the layer's heap -/
def Kv (K : PySem.W.Frag) (G : Hp) (Q : DK) : VK := fun v H => ∃ d M G', Same G G' ∧ SM K G' M H ∧ Rp K G' d v ∧ Q d M
/-- .. of an exception that leaves -/
def Kx (K : PySem.W.Frag) (G : Hp) (E : AX) : XK := fun cls dx H => ∃ C fs a vs M G', cls = .ref C ∧ dx = some a ∧ Same G G' ∧ SM K G' M H ∧ H a = some (.xd vs) ∧ FR K G' fs vs ∧ E C fs M
/-- .. of an exception where the slots are known -/
def Wx (K : PySem.W.Frag) (B : Hp) (E : AXs) : WX := fun cls dx s H => ∃ C fs a vs σ M G, cls = .ref C ∧ dx = some a ∧ SS K B G σ M s H ∧ H a = some (.xd vs) ∧ FR K G fs vs ∧ E σ C fs M
theorem SS.with {K : PySem.W.Frag} {B G G' : Hp} {σ : AS} {M M' : Mem} {s : L2.St} {H H' : Hp} (x : SS K B G σ M s H) (e : Same G G') (m : SM K G' M' H') : SS K B G' σ M' s H' :=
  ⟨x.base.trans e, m, x.len, fun i d h => let ⟨v, h1, h2⟩ := x.sl i d h; ⟨v, h1, h2.up e⟩⟩
abbrev AE := AS → Mem → DK → AXs → Prop
abbrev AT := AS → Mem → (Bool → Mem → Prop) → AXs → Prop
abbrev AA := AS → Mem → (List D → Mem → Prop) → AXs → Prop
def LE (K : PySem.W.Frag) (B : Hp) (W : WX) (t : AE) : TE := fun s H R => ∃ G σ M Q E, SS K B G σ M s H ∧ t σ M Q E ∧ (∀ v H', Kv K G Q v H' → R v H') ∧ ∀ c d s' H', Wx K B E c d s' H' → W c d s' H'
def LT (K : PySem.W.Frag) (B : Hp) (W : WX) (t : AT) : TT := fun s H R => ∃ G σ M Q E, SS K B G σ M s H ∧ t σ M Q E ∧ (∀ b H' M' G', Same G G' → SM K G' M' H' → Q b M' → R b H') ∧ ∀ c d s' H', Wx K B E c d s' H' → W c d s' H'
def LA (K : PySem.W.Frag) (B : Hp) (W : WX) (t : AA) : TA := fun s H R => ∃ G σ M Q E, SS K B G σ M s H ∧ t σ M Q E ∧ (∀ vs H' ds M' G', Same G G' → SM K G' M' H' → RpA K G' ds vs → Q ds M' → R vs H') ∧ ∀ c d s' H', Wx K B E c d s' H' → W c d s' H'
abbrev QE (X : Cx) (B : Hp) (W : WX) (e : Expr) (t : AE) : Prop := PE X e (LE X.K B W t)
abbrev QT (X : Cx) (B : Hp) (W : WX) (e : Expr) (t : AT) : Prop := PT X e (LT X.K B W t)
abbrev QA (X : Cx) (B : Hp) (W : WX) (es : List Expr) (t : AA) : Prop := PA X es (LA X.K B W t)

theorem pe_imp {X : Cx} {e : Expr} {t t' : TE} (h : PE X e t) (k : ∀ σ H Q, t' σ H Q → t σ H Q) : PE X e t' := ⟨fun pins s σ H Q I q => h.run pins s σ H Q I (k σ H Q q)⟩
theorem pt_imp {X : Cx} {e : Expr} {t t' : TT} (h : PT X e t) (k : ∀ σ H Q, t' σ H Q → t σ H Q) : PT X e t' := ⟨fun pins s σ H Q I q => h.run pins s σ H Q I (k σ H Q q)⟩
theorem pw_imp {X : Cx} {e : Expr} {t t' : TT} (h : PW X e t) (k : ∀ σ H Q, t' σ H Q → t σ H Q) : PW X e t' := ⟨fun wh pins s σ H Q I q => h.run wh pins s σ H Q I (k σ H Q q)⟩
theorem pa_imp {X : Cx} {e : List Expr} {t t' : TA} (h : PA X e t) (k : ∀ σ H Q, t' σ H Q → t σ H Q) : PA X e t' := ⟨fun ps pins s σ H Q I q => h.run ps pins s σ H Q I (k σ H Q q)⟩
theorem ps_imp {X : Cx} {e : Stmt} {t t' : TS} (h : PS X e t) (k : ∀ D σ H, t' D σ H → t D σ H) : PS X e t' := ⟨fun pins s σ H D I q => h.run pins s σ H D I (k D σ H q)⟩
theorem pss_imp {X : Cx} {e : List Stmt} {t t' : TS} (h : PSs X e t) (k : ∀ D σ H, t' D σ H → t D σ H) : PSs X e t' := ⟨fun pins s σ H D I q => h.run pins s σ H D I (k D σ H q)⟩

section
variable {X : Cx} {B : Hp} {W : WX} {a b c e : Expr} {es : List Expr} {ta tb tc te : AE} {tt : AT} {tas : AA} {pos : Pos}
/-- a value that is at hand -/
theorem Kv.here {K : PySem.W.Frag} {G : Hp} {Q : DK} {d : D} {v : V} {M : Mem} {H : Hp} (m : SM K G M H) (r : Rp K G d v) (q : Q d M) : Kv K G Q v H := ⟨d, M, G, Same.refl G, m, r, q⟩
theorem Kv.lift {K : PySem.W.Frag} {G G' : Hp} {Q : DK} {v : V} {H : Hp} (e : Same G G') (h : Kv K G' Q v H) : Kv K G Q v H := let ⟨d, M, G2, e2, m, r, q⟩ := h; ⟨d, M, G2, e.trans e2, m, r, q⟩

/-! ### names, constants -/
@[simp] def onSlot (o : Option (Option D)) (k : D → Prop) : Prop := match o with
  | some (some d) => k d
  | _ => False
theorem onSlot_ok {o : Option (Option D)} {k : D → Prop} (h : onSlot o k) : ∃ d, o = some (some d) ∧ k d := by
  match o, h with
  | some (some d), h => exact ⟨d, rfl, h⟩
@[simp] def aVar (i : Nat) : AE := fun σ M Q _ => onSlot σ[i]? fun d => Q d M
@[simp] def aC (d : D) : AE := fun _ M Q _ => Q d M
theorem qe_var (i : Nat) {x : Str} {pos : Pos} (hN : X.N[i]? = some x := by rfl) (hv : Vis X.env.scope x := by first | exact Or.inl rfl | exact Or.inr (Or.inl rfl) | exact Or.inr (Or.inr rfl)) (hd : (x == ("__debug__" : Str)) = false := by decide)
    (hcd : (x == ("__classdict__" : Str)) = false := by decide) : QE X B W (.Name x pos) (aVar i) := pe_imp (pe_var hN hv hd hcd) fun s H R ⟨G, σ, M, Q, E, ss, h, k, _⟩ => by
  obtain ⟨d, e, q⟩ := onSlot_ok h
  obtain ⟨v, e2, r⟩ := ss.sl i d e
  exact ⟨v, e2, k v H (.here ss.mem r q)⟩
/-- a constant by its reading -/
theorem qe_c {v : V} {d : D} (h : PE X e (tC v)) (r : ∀ G, Rp X.K G d v) : QE X B W e (aC d) := pe_imp h fun s H R ⟨G, σ, M, Q, E, ss, q, k, _⟩ => k v H (.here ss.mem (r G) q)
theorem qe_int {i j} : QE X B W (.Constant (.int i) j pos) (aC (.int i)) := qe_c pe_int fun _ => .int i
theorem qe_bl {i j} : QE X B W (.Constant (.bool i) j pos) (aC (.bl i)) := qe_c pe_bl fun _ => .bl i
theorem qe_non {j} : QE X B W (.Constant .none j pos) (aC .non) := qe_c pe_non fun _ => .non
theorem qe_str {i j} : QE X B W (.Constant (.str i) j pos) (aC (.str i)) := qe_c pe_str fun _ => .str i
/-- a module's constant -/
theorem qe_glob {x : Str} {v : V} {u : Value} {d : D} {pos : Pos} (hg : Gl X x) (hm : X.mg x = some u) (r : RelV v u) (rp : ∀ G, Rp X.K G d v) (hd : (x == ("__debug__" : Str)) = false := by decide) : QE X B W (.Name x pos) (aC d) := qe_c (pe_glob hg hm r hd) rp
theorem qe_bltn {x : Str} {n : String} {pos : Pos} (hg : Gl X x) (hm : X.mg x = none) (hv : bootBuiltins x = some (.type n)) (hn : x ≠ "__name__" := by decide) (hd : (x == ("__debug__" : Str)) = false := by decide) : QE X B W (.Name x pos) (aC (.ty n)) := qe_c (pe_bltn (v := .ty n) hg hm hv rfl hn hd) fun _ => .ty n

/-! ### operations by values -/
abbrev A2 := D → D → Mem → DK → Prop
/-- r is right for the layer's rule rc -/
def OkR (K : PySem.W.Frag) (r : A2) (rc : R2) : Prop := ∀ G M H x y xv yv Q R, SM K G M H → Rp K G x xv → Rp K G y yv → r x y M Q → (∀ v H', Kv K G Q v H' → R v H') → rc xv yv H R
@[simp] def aOp (r : A2) (ta tb : AE) : AE := fun σ M Q E => ta σ M (fun x M1 => tb σ M1 (fun y M2 => r x y M2 Q) E) E
/-- two expressions, then something -/
theorem le_bin {K : PySem.W.Frag} {s : L2.St} {H : Hp} {R : V → V → Hp → Prop} {G : Hp} {σ : AS} {M : Mem} {E : AXs} {r : D → D → Mem → Prop} (ss : SS K B G σ M s H) (h : ta σ M (fun x M1 => tb σ M1 (fun y M2 => r x y M2) E) E) (kx : ∀ c d s' H', Wx K B E c d s' H' → W c d s' H')
    (k : ∀ G' M' H' x y xv yv, Same G G' → SM K G' M' H' → Rp K G' x xv → Rp K G' y yv → r x y M' → R xv yv H') :
    LE K B W ta s H fun v H1 => LE K B W tb s H1 fun u H2 => R v u H2 := by
  refine ⟨G, σ, M, _, E, ss, h, fun v H1 ⟨x, M1, G1, e1, m1, r1, q1⟩ => ?_, kx⟩
  refine ⟨G1, σ, M1, _, E, ss.with e1 m1, q1, fun u H2 ⟨y, M2, G2, e2, m2, r2, q2⟩ => ?_, kx⟩
  exact k G2 M2 H2 x y v u (e1.trans e2) m2 (r1.up e2) r2 q2
theorem lift_op {K : PySem.W.Frag} {r : A2} {rc : R2} (ok : OkR K r rc) {s : L2.St} {H : Hp} {R : VK} (h : LE K B W (aOp r ta tb) s H R) : tOp rc (LE K B W ta) (LE K B W tb) s H R := by
  obtain ⟨G, σ, M, Q, E, ss, h, k, kx⟩ := h
  exact le_bin ss h kx fun G' M' H' x y xv yv e m rx ry q => ok G' M' H' x y xv yv Q R m rx ry q fun v H2 kv => k v H2 (kv.lift e)
theorem qe_op {op : Operator} {r : A2} {rc : R2} (ho : OpR X (binaryOp op) rc) (ok : OkR X.K r rc) (ha : QE X B W a ta) (hb : QE X B W b tb) : QE X B W (.BinOp a op b pos) (aOp r ta tb) :=
  pe_imp (pe_op ho ha hb) fun _ _ _ h => lift_op ok h
end
end HA
/-! A2: operators, comparisons, tests over trees. -/
namespace HA
open PySem PySem.Spec L2

section
variable {K : PySem.W.Frag} {G : Hp} {x y d : D} {v : V}
theorem rp_int {i : Int} (h : Rp K G (.int i) v) : v = .int i := by cases h; rfl
theorem rp_bl {i : Bool} (h : Rp K G (.bl i) v) : v = .bl i := by cases h; rfl
theorem rp_str {i : Str} (h : Rp K G (.str i) v) : v = .str i := by cases h; rfl
theorem rp_non (h : Rp K G .non v) : v = .non := by cases h; rfl
theorem rp_ref {a : Addr} (h : Rp K G (.ref a) v) : v = .ref a := by cases h; rfl
theorem rp_tup {ds : List D} (h : Rp K G (.tup ds) v) : ∃ a vs, v = .ref a ∧ SqT K G a vs ∧ RpA K G ds vs := by cases h with | tup h k => exact ⟨_, _, rfl, h.sq, k⟩
theorem rp_tp {ds : List D} (h : Rp K G (.tup ds) v) : ∃ a vs, v = .ref a ∧ TpAt K G a vs ∧ RpA K G ds vs := by cases h with | tup h k => exact ⟨_, _, rfl, h, k⟩
end

/-! ### ints -/
@[simp] def bI (C : Int → Int → Prop) (f : Int → Int → Int) : A2 := fun x y M Q => match x, y with
  | .int i, .int j => C i j ∧ Q (.int (f i j)) M
  | _, _ => False
@[simp] def bI0 (f : Int → Int → Int) : A2 := fun x y M Q => match x, y with
  | .int i, .int j => Q (.int (f i j)) M
  | _, _ => False
theorem bI_ok {K : PySem.W.Frag} {C : Int → Int → Prop} {f : Int → Int → Int} : OkR K (bI C f) (rI C fun i j => .int (f i j)) := fun G M H x y xv yv Q R m rx ry h k => by
  match x, y, h with
  | .int i, .int j, h => exact ⟨i, j, rp_int rx, rp_int ry, h.1, k _ _ (.here m (.int _) h.2)⟩
theorem bI0_ok {K : PySem.W.Frag} {f : Int → Int → Int} : OkR K (bI0 f) (rI0 fun i j => .int (f i j)) := fun G M H x y xv yv Q R m rx ry h k => by
  match x, y, h with
  | .int i, .int j, h => exact ⟨i, j, rp_int rx, rp_int ry, k _ _ (.here m (.int _) h)⟩
/-- a product of numbers that fits -/
def MulOk (i j : Int) : Prop := IntMulOk i j
theorem op_mulO {X : Cx} : OpR X (binaryOp .Mult) (rI MulOk fun i j => .int (i * j)) := opI fun _ _ _ _ _ _ _ hc q => PyProof.Rows.mul_int q hc
theorem iop_mulO {X : Cx} : OpR X (inplaceOp .Mult) (rI MulOk fun i j => .int (i * j)) := opI fun _ _ _ _ _ _ _ hc q => PyProof.Rows.imul_int q hc
theorem MulOk.of {i j : Int} {a b : Nat} (ha : i.natAbs < 2 ^ a) (hb : j.natAbs < 2 ^ b) (h : a + b ≤ 134217728) : MulOk i j := (mulx_ok ha hb h).ok
theorem MulOk.left {i j : Int} (h1 : -18446744073709551616 < i) (h2 : i < 18446744073709551616) : MulOk i j := CMul.ok (.inl ⟨by simpa using h1, by simpa using h2⟩)
theorem MulOk.right {i j : Int} (h1 : -18446744073709551616 < j) (h2 : j < 18446744073709551616) : MulOk i j := CMul.ok (.inr ⟨by simpa using h1, by simpa using h2⟩)
def DivOk (_ j : Int) : Prop := 0 < j ∧ j.natAbs.log2 < 9000
theorem DivOk.of {i j : Int} {b : Nat} (h : 0 < j) (hb : j.natAbs < 2 ^ b) (h0 : 0 < b) (h9 : b ≤ 9000) : DivOk i j := wide_div (i := i) h hb h0 h9
theorem DivOk.small {i j : Int} (h : 0 < j) (hb : j < 18446744073709551616) : DivOk i j := by
  refine DivOk.of (b := 64) h ?_ (by decide) (by decide)
  have e : (2 : Nat) ^ 64 = 18446744073709551616 := by decide
  omega
def ModOk (_ j : Int) : Prop := 0 < j
def ShrOk (_ j : Int) : Prop := 0 ≤ j
def ShlOk (i j : Int) : Prop := CShl i j
theorem ShlOk.of {i j : Int} {n : Nat} (hj : 0 ≤ j) (h : i.natAbs < 2 ^ n) (hn : n + j.toNat ≤ 134217728) : ShlOk i j := by
  have := shl_ok (j := j.toNat) h hn
  rwa [Int.toNat_of_nonneg hj] at this

def intMul (f : Int → Int → Int) := f
section
variable {X : Cx} {B : Hp} {W : WX} {a b c e : Expr} {es : List Expr} {ta tb tc te : AE} {pos : Pos}
abbrev aSub (ta tb : AE) : AE := aOp (bI0 fun i j => i - j) ta tb
theorem qe_sub (ha : QE X B W a ta) (hb : QE X B W b tb) : QE X B W (.BinOp a .Sub b pos) (aOp (bI0 fun i j => i - j) ta tb) := qe_op op_sub bI0_ok ha hb
theorem qe_mod (ha : QE X B W a ta) (hb : QE X B W b tb) : QE X B W (.BinOp a .Mod b pos) (aOp (bI ModOk fun i j => i % j) ta tb) := qe_op op_mod bI_ok ha hb
theorem qe_fdiv (ha : QE X B W a ta) (hb : QE X B W b tb) : QE X B W (.BinOp a .FloorDiv b pos) (aOp (bI DivOk fun i j => i / j) ta tb) := qe_op op_fdivW bI_ok ha hb
theorem qe_pow (ha : QE X B W a ta) (hb : QE X B W b tb) : QE X B W (.BinOp a .Pow b pos) (aOp (bI CPow fun i j => i ^ j.toNat) ta tb) := qe_op op_pow bI_ok ha hb
theorem qe_shl (ha : QE X B W a ta) (hb : QE X B W b tb) : QE X B W (.BinOp a .LShift b pos) (aOp (bI ShlOk fun i j => i * 2 ^ j.toNat) ta tb) := qe_op op_shlW bI_ok ha hb
theorem qe_shr (ha : QE X B W a ta) (hb : QE X B W b tb) : QE X B W (.BinOp a .RShift b pos) (aOp (bI ShrOk fun i j => i / 2 ^ j.toNat) ta tb) := qe_op op_shr bI_ok ha hb
theorem qe_and (ha : QE X B W a ta) (hb : QE X B W b tb) : QE X B W (.BinOp a .BitAnd b pos) (aOp (bI0 Builtin.bitAnd) ta tb) := qe_op op_and bI0_ok ha hb
theorem qe_or (ha : QE X B W a ta) (hb : QE X B W b tb) : QE X B W (.BinOp a .BitOr b pos) (aOp (bI0 Builtin.bitOr) ta tb) := qe_op op_or bI0_ok ha hb
theorem qe_xor (ha : QE X B W a ta) (hb : QE X B W b tb) : QE X B W (.BinOp a .BitXor b pos) (aOp (bI0 Builtin.bitXor) ta tb) := qe_op op_xor bI0_ok ha hb
end

/-! ### + -/
/-- a changeable or frozen list of the call's own -/
@[simp] def LstAt (M : Mem) (x : D) (xs : List D) : Prop := match x with
  | .lst ys => xs = ys
  | .ref a => M a = some (.lst xs)
  | _ => False
/-- any list to be read -/
@[simp] def LsAt (M : Mem) (x : D) (xs : List D) : Prop := match x with
  | .lst ys => xs = ys
  | .frz ys => xs = ys
  | .ref a => M a = some (.lst xs)
  | _ => False
section
variable {K : PySem.W.Frag} {G H : Hp} {M : Mem} {x : D} {xs : List D} {v : V}
theorem lstAt {P : Prop} (m : SM K G M H) (r : Rp K G x v) (h : LstAt M x xs) (k : ∀ a vs, v = .ref a → H a = some (.lst vs) → RpA K G xs vs → P) : P := (by exact HA.Wq.get : @HA.Wq (P) (by
  match x, h with
  | .lst ys, h =>
    cases h
    cases r with | lst g t => exact k _ _ rfl (m.same _ _ g) t
  | .ref a, h =>
    cases r
    obtain ⟨_, vs, t, e⟩ := m.cell a _ h
    exact k a vs rfl e t))
theorem lsAt {P : Prop} (m : SM K G M H) (r : Rp K G x v) (h : LsAt M x xs) (k : ∀ a vs, v = .ref a → SqL K H a vs → RpA K G xs vs → P) : P := (by exact HA.Wq.get : @HA.Wq (P) (by
  match x, h with
  | .lst ys, h =>
    cases h
    cases r with | lst g t => exact k _ _ rfl (.of (m.same _ _ g)) t
  | .frz ys, h =>
    cases h
    cases r with | frz g t => exact k _ _ rfl (m.same.seq g) t
  | .ref a, h =>
    cases r
    obtain ⟨_, vs, t, e⟩ := m.cell a _ h
    exact k a vs rfl (.of e) t))
/-- a new list, a cell -/
theorem Kv.lst {Q : DK} {R : VK} {p : Addr} {xs : List D} {vs : List V} (m : SM K G M H) (k : ∀ v H', Kv K G Q v H' → R v H') (r : RpA K G xs vs) (hp : H p = none) (q : ∀ p, M p = none → Q (.ref p) (mset M p (.lst xs))) : R (.ref p) (upd H p (.lst vs)) :=
  k _ _ ⟨.ref p, mset M p (.lst xs), G, Same.refl G, m.new hp ⟨vs, r, upd_same⟩, .ref p, q p (m.free hp).2⟩
/-- a new tuple, frozen -/
theorem Kv.tup {Q : DK} {R : VK} {p : Addr} {xs : List D} {vs : List V} (m : SM K G M H) (k : ∀ v H', Kv K G Q v H' → R v H') (r : RpA K G xs vs) (hp : H p = none) (q : Q (.tup xs) M) : R (.ref p) (upd H p (.tup vs)) := by
  have g0 := (m.free hp).1
  exact k _ _ ⟨.tup xs, M, _, same_upd g0, m.frozen hp, .tup (.inl upd_same) (r.up (same_upd g0)), q⟩
end
@[simp] def bAdd : A2 := fun x y M Q => match x, y with
  | .int i, .int j => Q (.int (i + j)) M
  | .str i, .str j => i.length + j.length ≤ sizeLine ∧ Q (.str (i ++ j)) M
  | .tup xs, .tup ys => xs.length + ys.length ≤ sizeLine ∧ Q (.tup (xs ++ ys)) M
  | x, y => ∃ xs ys, LstAt M x xs ∧ LstAt M y ys ∧ xs.length + ys.length ≤ sizeLine ∧ ∀ p, M p = none → Q (.ref p) (mset M p (.lst (xs ++ ys)))
def rAddA (K : PySem.W.Frag) : R2 := fun x y H Q => ((rI0 fun i j => .int (i + j)) x y H Q ∨ (fun x y H Q => ∃ i j, x = .str i ∧ y = .str j ∧ i.length + j.length ≤ sizeLine ∧ Q (.str (i ++ j)) H : R2) x y H Q) ∨ rCatA K x y H Q ∨ rCat x y H Q
theorem op_addA {X : Cx} : OpR X (binaryOp .Add) (rAddA X.K) := (op_add.or op_add_str).or (op_catA.or op_cat)
theorem bAdd_ok {K : PySem.W.Frag} : OkR K bAdd (rAddA K) := fun G M H x y xv yv Q R m rx ry h k => by
  have lists : (∃ xs ys, LstAt M x xs ∧ LstAt M y ys ∧ xs.length + ys.length ≤ sizeLine ∧ ∀ p, M p = none → Q (.ref p) (mset M p (.lst (xs ++ ys)))) → rAddA K xv yv H R := by
    rintro ⟨xs, ys, h1, h2, hz, q⟩
    refine lstAt m rx h1 fun a vs e1 p1 r1 => lstAt m ry h2 fun b ws e2 p2 r2 => ?_
    exact .inr (.inr ⟨a, b, vs, ws, e1, e2, p1, p2, by rw [← r1.len, ← r2.len]; exact hz, fun p hp => Kv.lst m k (r1.app r2) hp q⟩)
  unfold bAdd at h
  split at h
  · cases rx; cases ry
    exact .inl (.inl ⟨_, _, rfl, rfl, k _ _ (.here m (.int _) h)⟩)
  · cases rx; cases ry
    exact .inl (.inr ⟨_, _, rfl, rfl, h.1, k _ _ (.here m (.str _) h.2)⟩)
  · rename_i xs ys
    obtain ⟨a, vs, rfl, p1, r1⟩ := rp_tup rx
    obtain ⟨b, ws, rfl, p2, r2⟩ := rp_tup ry
    obtain ⟨hz, q⟩ := h
    refine .inr (.inl ⟨a, b, vs, ws, rfl, rfl, same_sqt m.same p1, same_sqt m.same p2, by rw [← r1.len, ← r2.len]; exact hz, fun e => ?_, fun _ e => ?_, fun _ _ p hp => Kv.tup m k (r1.app r2) hp q⟩)
    · subst e; cases r1; exact k _ _ (.here m ry q)
    · subst e; cases r2; exact k _ _ (.here m rx (by simpa using q))
  · exact lists h
section
variable {X : Cx} {B : Hp} {W : WX} {a b c e : Expr} {es : List Expr} {ta tb tc te : AE} {pos : Pos}
theorem qe_add (ha : QE X B W a ta) (hb : QE X B W b tb) : QE X B W (.BinOp a .Add b pos) (aOp bAdd ta tb) := qe_op op_addA bAdd_ok ha hb
end

/-! ### comparisons -/
@[simp] def bC (f : Int → Int → Bool) : A2 := fun x y M Q => match x, y with
  | .int i, .int j => Q (.bl (f i j)) M
  | _, _ => False
theorem bC_ok {K : PySem.W.Frag} {f : Int → Int → Bool} : OkR K (bC f) (rI0 fun i j => .bl (f i j)) := fun G M H x y xv yv Q R m rx ry h k => by
  match x, y, h with
  | .int i, .int j, h => exact ⟨i, j, rp_int rx, rp_int ry, k _ _ (.here m (.bl _) h)⟩

mutual
/-- d is the data p, as the memory stands -/
inductive DR (M : Mem) : D → PyData → Prop
  | non : DR M .non .none
  | bl (b : Bool) : DR M (.bl b) (.bool b)
  | int (i : Int) : DR M (.int i) (.int i)
  | str (x : Str) : DR M (.str x) (.str x)
  | tup {xs : List D} {ps : List PyData} : DRA M xs ps → DR M (.tup xs) (.tuple ps)
  | lst {x : D} {xs : List D} {ps : List PyData} : LsAt M x xs → DRA M xs ps → DR M x (.list ps)
inductive DRA (M : Mem) : List D → List PyData → Prop
  | nil : DRA M [] []
  | cons {x : D} {p : PyData} {xs : List D} {ps : List PyData} : DR M x p → DRA M xs ps → DRA M (x :: xs) (p :: ps)
end
mutual
theorem DR.dp {K : PySem.W.Frag} {G H : Hp} {M : Mem} (m : SM K G M H) : ∀ {d : D} {p : PyData} {v : V}, DR M d p → Rp K G d v → Dp K H v p
  | _, _, _, .non, r => by cases r; exact .non
  | _, _, _, .bl b, r => by cases r; exact .bl b
  | _, _, _, .int b, r => by cases r; exact .int b
  | _, _, _, .str b, r => by cases r; exact .str b
  | _, _, _, .tup h, r => by
    obtain ⟨a, vs, rfl, p1, r1⟩ := rp_tup r
    exact .tup (same_sqt m.same p1) (DRA.dp m h r1)
  | _, _, _, .lst h t, r => lsAt m r h fun a vs e p r1 => by subst e; exact .lst p (DRA.dp m t r1)
theorem DRA.dp {K : PySem.W.Frag} {G H : Hp} {M : Mem} (m : SM K G M H) : ∀ {d : List D} {p : List PyData} {v : List V}, DRA M d p → RpA K G d v → DpAll K H v p
  | _, _, _, .nil, r => by cases r; exact .nil
  | _, _, _, .cons h t, r => by
    cases r with | cons r1 r2 => exact .cons (DR.dp m h r1) (DRA.dp m t r2)
end
theorem DRA.ints {M : Mem} : ∀ ns : List Int, DRA M (ns.map D.int) (ns.map PyData.int)
  | [] => .nil
  | n :: r => .cons (.int n) (DRA.ints r)
theorem DRA.app {M : Mem} : ∀ {xs ys : List D} {ps qs : List PyData}, DRA M xs ps → DRA M ys qs → DRA M (xs ++ ys) (ps ++ qs)
  | _, _, _, _, .nil, h => h
  | _, _, _, _, .cons a b, h => .cons a (DRA.app b h)

/-- ==: scalars at once, else by the data -/
def bEq (neg : Bool) : A2 := fun x y M Q => match x, y with
  | .int i, .int j => Q (.bl (neg ^^ decide (i = j))) M
  | .str i, .str j => Q (.bl (neg ^^ decide (i = j))) M
  | .bl i, .bl j => Q (.bl (neg ^^ decide (i = j))) M
  | .non, .non => Q (.bl (neg ^^ true)) M
  | x, y => ∃ d e, DR M x d ∧ DR M y e ∧ SeqAt.shaped d = true ∧ SeqAt.shaped e = true ∧ Q (.bl (neg ^^ PyData.eqv d e)) M
theorem vI {i j : Int} : decide (V.int i = V.int j) = decide (i = j) := by simp
theorem vS {i j : Str} : decide (V.str i = V.str j) = decide (i = j) := by simp
theorem vB {i j : Bool} : decide (V.bl i = V.bl j) = decide (i = j) := by simp
theorem xor_f (b : Bool) : (false ^^ b) = b := by cases b <;> rfl
theorem xor_t (b : Bool) : (true ^^ b) = !b := by cases b <;> rfl
theorem bEq_ok {K : PySem.W.Frag} : OkR K (bEq false) (fun x y H Q => rEq x y H Q ∨ rEqD K x y H Q) := fun G M H x y xv yv Q R m rx ry h k => by
  unfold bEq at h
  simp only [xor_f] at h
  split at h
  · cases rx; cases ry
    exact .inl ⟨rfl, k _ _ (.here m (by rw [vI]; exact .bl _) h)⟩
  · cases rx; cases ry
    exact .inl ⟨rfl, k _ _ (.here m (by rw [vS]; exact .bl _) h)⟩
  · cases rx; cases ry
    exact .inl ⟨rfl, k _ _ (.here m (by rw [vB]; exact .bl _) h)⟩
  · cases rx; cases ry
    exact .inl ⟨rfl, k _ _ (.here m (.bl _) (by simpa using h))⟩
  · obtain ⟨d, e, h1, h2, s1, s2, q⟩ := h
    exact .inr ⟨d, e, h1.dp m rx, h2.dp m ry, s1, s2, k _ _ (.here m (.bl _) q)⟩
theorem bNe_ok {K : PySem.W.Frag} : OkR K (bEq true) (fun x y H Q => rNe x y H Q ∨ rNeD K x y H Q) := fun G M H x y xv yv Q R m rx ry h k => by
  unfold bEq at h
  simp only [xor_t] at h
  split at h
  · cases rx; cases ry
    exact .inl ⟨rfl, k _ _ (.here m (by rw [vI]; exact .bl _) h)⟩
  · cases rx; cases ry
    exact .inl ⟨rfl, k _ _ (.here m (by rw [vS]; exact .bl _) h)⟩
  · cases rx; cases ry
    exact .inl ⟨rfl, k _ _ (.here m (by rw [vB]; exact .bl _) h)⟩
  · cases rx; cases ry
    exact .inl ⟨rfl, k _ _ (.here m (.bl _) (by simpa using h))⟩
  · obtain ⟨d, e, h1, h2, s1, s2, q⟩ := h
    exact .inr ⟨d, e, h1.dp m rx, h2.dp m ry, s1, s2, k _ _ (.here m (.bl _) q)⟩

/-- the operator's reading over trees -/
def CmpOk (X : Cx) (op : CmpOp) (r : A2) : Prop := ∃ rc, OpR X (compareOp op) rc ∧ OkR X.K r rc
section
variable {X : Cx}
theorem c_lt : CmpOk X .Lt (bC fun i j => decide (i < j)) := ⟨_, op_lt, bC_ok⟩
theorem c_le : CmpOk X .LtE (bC fun i j => decide (i ≤ j)) := ⟨_, op_le, bC_ok⟩
theorem c_gt : CmpOk X .Gt (bC fun i j => decide (j < i)) := ⟨_, op_gt, bC_ok⟩
theorem c_ge : CmpOk X .GtE (bC fun i j => decide (j ≤ i)) := ⟨_, op_ge, bC_ok⟩
theorem c_eq (hu : X.A.units + 64 < cLine) : CmpOk X .Eq (bEq false) := ⟨_, op_eq.or (op_eqD hu), bEq_ok⟩
theorem c_ne (hu : X.A.units + 64 < cLine) : CmpOk X .NotEq (bEq true) := ⟨_, op_ne.or (op_neD hu), bNe_ok⟩
/-- is None -/
@[simp] def isNon : D → Bool
  | .non => true
  | _ => false
@[simp] def bIsN (neg : Bool) : A2 := fun x y M Q => match y with
  | .non => Q (.bl (neg ^^ isNon x)) M
  | _ => False
theorem isNon_eq {K : PySem.W.Frag} {G : Hp} {x : D} {v : V} (r : Rp K G x v) : decide (v = V.non) = isNon x := by
  cases r <;> first | rfl | simp [isNon]
theorem c_is : CmpOk X .Is (bIsN false) := ⟨_, op_isN, fun G M H x y xv yv Q R m rx ry h k => by
  match y, h with
  | .non, h => exact ⟨rp_non ry, k _ _ (.here m (by rw [isNon_eq rx]; exact .bl _) (by simpa [bIsN] using h))⟩⟩
theorem c_isnot : CmpOk X .IsNot (bIsN true) := ⟨_, op_notN, fun G M H x y xv yv Q R m rx ry h k => by
  match y, h with
  | .non, h => exact ⟨rp_non ry, k _ _ (.here m (by rw [isNon_eq rx]; exact .bl _) (by simpa [bIsN] using h))⟩⟩
end

section
variable {X : Cx} {B : Hp} {W : WX} {a b c e : Expr} {es : List Expr} {ta tb tc te : AE} {tt tu : AT} {pos : Pos}
theorem qe_cmp {op : CmpOp} {r : A2} (o : CmpOk X op r) (ha : QE X B W a ta) (hb : QE X B W b tb) (hm : behindInMarks op b = false := by first | exact nomark _ | rfl) : QE X B W (.Compare a [op] [b] pos) (aOp r ta tb) := by
  obtain ⟨rc, ho, ok⟩ := o
  exact pe_imp (pe_cmpR ho ha hb hm) fun _ _ _ h => lift_op ok h
/-- a test's answer is True or False -/
@[simp] def onBl (x : D) (k : Bool → Prop) : Prop := match x with
  | .bl b => k b
  | _ => False
@[simp] def aTest (t : AE) : AT := fun σ M Q E => t σ M (fun x M' => onBl x fun k => Q k M') E
theorem qt_cmp {op : CmpOp} {r : A2} (o : CmpOk X op r) (ha : QE X B W a ta) (hb : QE X B W b tb) (hm : behindInMarks op b = false := by first | exact nomark _ | rfl) : QT X B W (.Compare a [op] [b] pos) (aTest (aOp r ta tb)) := by
  obtain ⟨rc, ho, ok⟩ := o
  refine pt_imp (pt_cmpR ho ha hb hm) fun s H R ⟨G, σ, M, Q, E, ss, h, k, kx⟩ => ?_
  exact lift_op ok ⟨G, σ, M, _, E, ss, h, fun v H' ⟨d, M', G', e, m, r, q⟩ => by
    match d, q with
    | .bl b, q => exact ⟨b, rp_bl r, k b H' M' G' e m q⟩, kx⟩
/-- a op b op' c -/
@[simp] def aChain (r r' : A2) (ta tb tc : AE) : AE := fun σ M Q E => ta σ M (fun x M1 => tb σ M1 (fun y M2 => r x y M2 fun z M3 => onBl z fun k => (k = true → tc σ M3 (fun w M4 => r' y w M4 Q) E) ∧ (k = false → Q (.bl false) M3)) E) E
theorem lift_chain {K : PySem.W.Frag} {r r' : A2} {rc rc' : R2} (ok : OkR K r rc) (ok' : OkR K r' rc') {s : L2.St} {H : Hp} {R : VK} (h : LE K B W (aChain r r' ta tb tc) s H R) : tChain rc rc' (LE K B W ta) (LE K B W tb) (LE K B W tc) s H R := (by exact HA.Wq.get : @HA.Wq (tChain rc rc' (LE K B W ta) (LE K B W tb) (LE K B W tc) s H R) (by
  obtain ⟨G, σ, M, Q, E, ss, h, k, kx⟩ := h
  have h : ta σ M (fun x M1 => tb σ M1 (fun y M2 => r x y M2 fun z M3 => onBl z fun k => (k = true → tc σ M3 (fun w M4 => r' y w M4 Q) E) ∧ (k = false → Q (.bl false) M3)) E) E := h
  refine le_bin (r := fun x y M2 => r x y M2 fun z M3 => onBl z fun k => (k = true → tc σ M3 (fun w M4 => r' y w M4 Q) E) ∧ (k = false → Q (.bl false) M3)) ss h kx fun G1 M1 H1 x y xv yv e m rx ry q => ?_
  refine ok G1 M1 H1 x y xv yv _ _ m rx ry q fun v H2 ⟨d, M2, G2, e2, m2, r2, q2⟩ => ?_
  match d, q2 with
  | .bl b, q2 =>
    refine ⟨b, rp_bl r2, ?_⟩
    cases b with
    | true =>
      refine iteT ⟨G2, σ, M2, _, E, (ss.with e m).with e2 m2, q2.1 rfl, fun w H3 ⟨z, M3, G3, e3, m3, r3, q3⟩ => ?_, kx⟩
      exact ok' G3 M3 H3 y z yv w Q R m3 (ry.up (e2.trans e3)) r3 q3 fun v H4 kv => k v H4 (kv.lift (e.trans (e2.trans e3)))
    | false => exact iteF (k _ _ ((Kv.here m2 (.bl false) (q2.2 rfl)).lift (e.trans e2)))))
theorem qe_chain {op op' : CmpOp} {r r' : A2} (o : CmpOk X op r) (o' : CmpOk X op' r') (ha : QE X B W a ta) (hb : QE X B W b tb) (hc : QE X B W c tc) (hm : lastMarks [op, op'] [b, c] = false := by with_unfolding_all rfl) : QE X B W (.Compare a [op, op'] [b, c] pos) (aChain r r' ta tb tc) := by
  obtain ⟨rc, ho, ok⟩ := o
  obtain ⟨rc', ho', ok'⟩ := o'
  exact pe_imp (pe_chain ho ho' ha hb hc hm) fun _ _ _ h => lift_chain ok ok' h
theorem qt_chain {op op' : CmpOp} {r r' : A2} (o : CmpOk X op r) (o' : CmpOk X op' r') (ha : QE X B W a ta) (hb : QE X B W b tb) (hc : QE X B W c tc) (hm : lastMarks [op, op'] [b, c] = false := by with_unfolding_all rfl) : QT X B W (.Compare a [op, op'] [b, c] pos) (aTest (aChain r r' ta tb tc)) := by
  obtain ⟨rc, ho, ok⟩ := o
  obtain ⟨rc', ho', ok'⟩ := o'
  refine pt_imp (pt_chain ho ho' ha hb hc hm) fun s H R ⟨G, σ, M, Q, E, ss, h, k, kx⟩ => ?_
  exact lift_chain ok ok' ⟨G, σ, M, _, E, ss, h, fun v H' ⟨d, M', G', e, m, r, q⟩ => by
    match d, q with
    | .bl b, q => exact ⟨b, rp_bl r, k b H' M' G' e m q⟩, kx⟩

/-! ### truth -/
/-- a value's truth -/
@[simp] def tru (x : D) (M : Mem) (k : Bool → Prop) : Prop := match x with
  | .non => k false
  | .bl b => k b
  | .int i => k (i != 0)
  | .str y => y.length ≤ sizeLine ∧ k ((y.length : Int) != 0)
  | .tup xs => k (!xs.isEmpty)
  | x => ∃ xs, LsAt M x xs ∧ k (!xs.isEmpty)
theorem empty_eq {K : PySem.W.Frag} {G : Hp} {xs : List D} {vs : List V} (r : RpA K G xs vs) : xs.isEmpty = vs.isEmpty := by cases r <;> rfl
theorem tru_to {K : PySem.W.Frag} {G H : Hp} {M : Mem} {x : D} {v : V} {P : Bool → Prop} (m : SM K G M H) (r : Rp K G x v) (h : tru x M P) : ∃ k, TruV K v H k ∧ P k := (by exact HA.Wq.get : @HA.Wq (∃ k, TruV K v H k ∧ P k) (by
  unfold tru at h
  split at h
  · cases r; exact ⟨false, rfl, h⟩
  · cases r; exact ⟨_, rfl, h⟩
  · cases r; exact ⟨_, rfl, h⟩
  · cases r; exact ⟨_, ⟨h.1, rfl⟩, h.2⟩
  · obtain ⟨a, vs, rfl, p, t⟩ := rp_tup r
    exact ⟨_, .inr (.inl ⟨vs, same_sqt m.same p, rfl⟩), by rw [← empty_eq t]; exact h⟩
  · obtain ⟨xs, h1, h2⟩ := h
    refine lsAt m r h1 fun a vs e p t => ?_
    subst e
    exact ⟨_, .inl ⟨vs, p, rfl⟩, by rw [← empty_eq t]; exact h2⟩))
@[simp] def aTruth (t : AE) : AT := fun σ M Q E => t σ M (fun x M' => tru x M' fun k => Q k M') E
theorem qt_truth (ha : QE X B W a ta) (he : ∀ whole, isTrue a X.env whole = (do let v ← whole; standAt a.pos; holding [v] (truthy v)) := by intro _; rfl) : QT X B W a (aTruth ta) :=
  pt_imp (pt_truth ha he) fun s H R ⟨G, σ, M, Q, E, ss, h, k, kx⟩ => ⟨G, σ, M, _, E, ss, h, fun v H' ⟨d, M', G', e, m, r, q⟩ =>
    let ⟨b, h1, h2⟩ := tru_to m r q; ⟨b, h1, k b H' M' G' e m h2⟩, kx⟩
/-- of a test's kind: not, and, or -/
@[simp] def aNotT (t : AT) : AT := fun σ M Q E => t σ M (fun b M' => Q (!b) M') E
theorem qt_not (ht : QT X B W a tt) : QT X B W (.UnaryOp .Not a pos) (aNotT tt) :=
  pt_imp (pt_not ht) fun s H R ⟨G, σ, M, Q, E, ss, h, k, kx⟩ => ⟨G, σ, M, _, E, ss, h, fun b H' M' G' e m q => k (!b) H' M' G' e m q, kx⟩
end
end HA
/-! A3: and, or, if-else, displays, items, slices, fields, built-in calls and methods, over trees. -/
namespace HA
open PySem PySem.Spec L2

section
variable {X : Cx} {B : Hp} {W : WX} {a b c e o i : Expr} {es rest : List Expr} {ta tb tc te : AE} {tt tu : AT} {tas : AA} {pos : Pos}
/-! ### and, or -/
@[simp] def aAndT (t u : AT) : AT := fun σ M Q E => t σ M (fun b M1 => (b = true → u σ M1 Q E) ∧ (b = false → Q false M1)) E
@[simp] def aOrT (t u : AT) : AT := fun σ M Q E => t σ M (fun b M1 => (b = true → Q true M1) ∧ (b = false → u σ M1 Q E)) E
abbrev QW (X : Cx) (B : Hp) (W : WX) (e : Expr) (t : AT) : Prop := PW X e (LT X.K B W t)
theorem qw_and1 (ha : QT X B W a tt) : QW X B W (.BoolOp .And [a] pos) tt := pw_and1 ha
theorem qw_or1 (ha : QT X B W a tt) : QW X B W (.BoolOp .Or [a] pos) tt := pw_or1 ha
theorem qw_and (ha : QT X B W a tt) (hb : QW X B W (.BoolOp .And (b :: rest) pos) tu) : QW X B W (.BoolOp .And (a :: b :: rest) pos) (aAndT tt tu) :=
  pw_imp (pw_and ha hb) fun s H R ⟨G, σ, M, Q, E, ss, h, k, kx⟩ => ⟨G, σ, M, _, E, ss, h, fun b H1 M1 G1 e m q => by
    cases b with
    | true => exact iteT ⟨G1, σ, M1, Q, E, ss.with e m, q.1 rfl, fun b H2 M2 G2 e2 m2 q2 => k b H2 M2 G2 (e.trans e2) m2 q2, kx⟩
    | false => exact iteF (k false H1 M1 G1 e m (q.2 rfl)), kx⟩
theorem qw_or (ha : QT X B W a tt) (hb : QW X B W (.BoolOp .Or (b :: rest) pos) tu) : QW X B W (.BoolOp .Or (a :: b :: rest) pos) (aOrT tt tu) :=
  pw_imp (pw_or ha hb) fun s H R ⟨G, σ, M, Q, E, ss, h, k, kx⟩ => ⟨G, σ, M, _, E, ss, h, fun b H1 M1 G1 e m q => by
    cases b with
    | false => exact iteF ⟨G1, σ, M1, Q, E, ss.with e m, q.2 rfl, fun b H2 M2 G2 e2 m2 q2 => k b H2 M2 G2 (e.trans e2) m2 q2, kx⟩
    | true => exact iteT (k true H1 M1 G1 e m (q.1 rfl)), kx⟩
theorem qt_w (h : QW X B W e tt) : QT X B W e tt := h.pt
/-- as values -/
@[simp] def aAndV (ta tb : AE) : AE := fun σ M Q E => ta σ M (fun x M1 => tru x M1 fun k => (k = true → tb σ M1 Q E) ∧ (k = false → Q x M1)) E
@[simp] def aOrV (ta tb : AE) : AE := fun σ M Q E => ta σ M (fun x M1 => tru x M1 fun k => (k = true → Q x M1) ∧ (k = false → tb σ M1 Q E)) E
@[simp] def aNotV (ta : AE) : AE := fun σ M Q E => ta σ M (fun x M1 => tru x M1 fun k => Q (.bl (!k)) M1) E
theorem qe_one {op} (h : QE X B W a ta) : QE X B W (.BoolOp op [a] pos) ta := pe_one h
end
end HA
namespace HA
open PySem PySem.Spec L2
section
variable {X : Cx} {B : Hp} {W : WX} {a b c e o i : Expr} {es rest : List Expr} {ta tb tc te : AE} {tt tu : AT} {tas : AA} {pos : Pos}
theorem qe_andV (ha : QE X B W a ta) (hb : QE X B W (.BoolOp .And (b :: rest) pos) tb) : QE X B W (.BoolOp .And (a :: b :: rest) pos) (aAndV ta tb) :=
  pe_imp (pe_andT ha hb) fun s H R ⟨G, σ, M, Q, E, ss, h, k, kx⟩ => ⟨G, σ, M, _, E, ss, h, fun v H1 ⟨x, M1, G1, e, m, r, q⟩ => by
    obtain ⟨b, h1, h2⟩ := tru_to m r q
    refine ⟨b, h1, ?_⟩
    cases b with
    | true => exact iteT ⟨G1, σ, M1, Q, E, ss.with e m, h2.1 rfl, fun v H2 kv => k v H2 (kv.lift e), kx⟩
    | false => exact iteF (k v H1 ((Kv.here m r (h2.2 rfl)).lift e)), kx⟩
theorem qe_orV (ha : QE X B W a ta) (hb : QE X B W (.BoolOp .Or (b :: rest) pos) tb) : QE X B W (.BoolOp .Or (a :: b :: rest) pos) (aOrV ta tb) :=
  pe_imp (pe_orT ha hb) fun s H R ⟨G, σ, M, Q, E, ss, h, k, kx⟩ => ⟨G, σ, M, _, E, ss, h, fun v H1 ⟨x, M1, G1, e, m, r, q⟩ => by
    obtain ⟨b, h1, h2⟩ := tru_to m r q
    refine ⟨b, h1, ?_⟩
    cases b with
    | false => exact iteF ⟨G1, σ, M1, Q, E, ss.with e m, h2.2 rfl, fun v H2 kv => k v H2 (kv.lift e), kx⟩
    | true => exact iteT (k v H1 ((Kv.here m r (h2.1 rfl)).lift e)), kx⟩
theorem qe_notV (ha : QE X B W a ta) : QE X B W (.UnaryOp .Not a pos) (aNotV ta) :=
  pe_imp (pe_notT ha) fun s H R ⟨G, σ, M, Q, E, ss, h, k, kx⟩ => ⟨G, σ, M, _, E, ss, h, fun v H1 ⟨x, M1, G1, e, m, r, q⟩ => by
    obtain ⟨b, h1, h2⟩ := tru_to m r q
    exact ⟨b, h1, k _ _ ((Kv.here m (.bl _) h2).lift e)⟩, kx⟩
@[simp] def aIfE (t : AT) (ta tb : AE) : AE := fun σ M Q E => t σ M (fun b M1 => (b = true → ta σ M1 Q E) ∧ (b = false → tb σ M1 Q E)) E
theorem qe_ifExp (hc : QT X B W c tt) (ha : QE X B W a ta) (hb : QE X B W b tb) : QE X B W (.IfExp c a b pos) (aIfE tt ta tb) :=
  pe_imp (pe_ifExp hc ha hb) fun s H R ⟨G, σ, M, Q, E, ss, h, k, kx⟩ => ⟨G, σ, M, _, E, ss, h, fun b H1 M1 G1 e m q => by
    cases b with
    | true => exact iteT ⟨G1, σ, M1, Q, E, ss.with e m, q.1 rfl, fun v H2 kv => k v H2 (kv.lift e), kx⟩
    | false => exact iteF ⟨G1, σ, M1, Q, E, ss.with e m, q.2 rfl, fun v H2 kv => k v H2 (kv.lift e), kx⟩, kx⟩
/-! ### unary -/
@[simp] def aNeg (ta : AE) : AE := fun σ M Q E => ta σ M (fun x M1 => match x with
  | .int i => Q (.int (-i)) M1
  | _ => False) E
theorem qe_neg (ha : QE X B W a ta) : QE X B W (.UnaryOp .USub a pos) (aNeg ta) :=
  pe_imp (pe_un un_neg ha) fun s H R ⟨G, σ, M, Q, E, ss, h, k, kx⟩ => ⟨G, σ, M, _, E, ss, h, fun v H1 ⟨x, M1, G1, e, m, r, q⟩ => by
    match x, q with
    | .int i, q => exact ⟨i, rp_int r, k _ _ ((Kv.here m (.int _) q).lift e)⟩, kx⟩
/-! ### argument lists, displays -/
@[simp] def aNil : AA := fun _ M Q _ => Q [] M
@[simp] def aCons (ta : AE) (tr : AA) : AA := fun σ M Q E => ta σ M (fun x M1 => tr σ M1 (fun xs M2 => Q (x :: xs) M2) E) E
theorem qa_nil : QA X B W [] aNil := pa_imp pa_nil fun s H R ⟨G, σ, M, Q, E, ss, h, k, kx⟩ => k [] H [] M G (Same.refl G) ss.mem .nil h
theorem qa_cons (ha : QE X B W e te) (hr : QA X B W es tas) (hs : starEach (e :: es) X.env = (false, eval e X.env) :: starEach es X.env := by rfl) : QA X B W (e :: es) (aCons te tas) :=
  pa_imp (pa_cons ha hr hs) fun s H R ⟨G, σ, M, Q, E, ss, h, k, kx⟩ => ⟨G, σ, M, _, E, ss, h, fun v H1 ⟨x, M1, G1, e, m, r, q⟩ =>
    ⟨G1, σ, M1, _, E, ss.with e m, q, fun vs H2 ds M2 G2 e2 m2 r2 q2 => k (v :: vs) H2 (x :: ds) M2 G2 (e.trans e2) m2 (.cons (r.up e2) r2) q2, kx⟩, kx⟩
@[simp] def aTup (t : AA) : AE := fun σ M Q E => t σ M (fun xs M1 => xs.length ≤ sizeLine ∧ Q (.tup xs) M1) E
@[simp] def aLst (t : AA) : AE := fun σ M Q E => t σ M (fun xs M1 => xs.length ≤ sizeLine ∧ ∀ p, M1 p = none → Q (.ref p) (mset M1 p (.lst xs))) E
theorem qe_tup {x1} (h : QA X B W es tas) : QE X B W (.Tuple es x1 pos) (aTup tas) :=
  pe_imp (pe_tup h) fun s H R ⟨G, σ, M, Q, E, ss, h, k, kx⟩ => ⟨G, σ, M, _, E, ss, h, fun vs H1 ds M1 G1 e m r q => ⟨by rw [← r.len]; exact q.1, fun p hp => Kv.tup m (fun v H' kv => k v H' (kv.lift e)) r hp q.2⟩, kx⟩
theorem qe_lst (h : QA X B W es tas) : QE X B W (.List es pos) (aLst tas) :=
  pe_imp (pe_lst h) fun s H R ⟨G, σ, M, Q, E, ss, h, k, kx⟩ => ⟨G, σ, M, _, E, ss, h, fun vs H1 ds M1 G1 e m r q => ⟨by rw [← r.len]; exact q.1, fun p hp => Kv.lst m (fun v H' kv => k v H' (kv.lift e)) r hp q.2⟩, kx⟩

/-! ### items -/
theorem atI_rp {K : PySem.W.Frag} {G : Hp} {ds : List D} {vs : List V} {i : Int} {d : D} (r : RpA K G ds vs) (h : atI ds i = some d) : ∃ v, atI vs i = some v ∧ Rp K G d v := (by exact HA.Wq.get : @HA.Wq (∃ v, atI vs i = some v ∧ Rp K G d v) (by
  unfold atI at h ⊢
  rw [← r.len]
  cases e : ixN ds.length i with
  | none => rw [e] at h; cases h
  | some j =>
    rw [e] at h
    obtain ⟨v, h1, h2⟩ := r.get (i := j) (d := d) h
    exact ⟨v, h1, h2⟩))
@[simp] def bIx : A2 := fun x y M Q => match x, y with
  | .tup xs, .int i => ∃ d, atI xs i = some d ∧ Q d M
  | .str z, .int i => z.length ≤ sizeLine ∧ ∃ c, atI z.cps.toList i = some c ∧ Q (.str ⟨#[c]⟩) M
  | x, .int i => ∃ xs d, LsAt M x xs ∧ atI xs i = some d ∧ Q d M
  | _, _ => False
theorem bIx_ok {K : PySem.W.Frag} : OkR K bIx (rIx K) := fun G M H x y xv yv Q R m rx ry h k => by
  unfold bIx at h
  split at h
  · obtain ⟨d, h1, h2⟩ := h
    obtain ⟨a, vs, rfl, p, t⟩ := rp_tup rx
    obtain ⟨v, e, r⟩ := atI_rp t h1
    cases ry
    exact .inr (.inl ⟨a, vs, _, v, rfl, rfl, same_sqt m.same p, e, k _ _ (.here m r h2)⟩)
  · obtain ⟨hz, c, h1, h2⟩ := h
    cases rx; cases ry
    exact .inr (.inr ⟨_, _, c, rfl, rfl, hz, h1, k _ _ (.here m (.str _) h2)⟩)
  · obtain ⟨xs, d, h1, h2, h3⟩ := h
    cases ry
    refine lsAt m rx h1 fun a vs e p t => ?_
    obtain ⟨v, e2, r⟩ := atI_rp t h2
    exact .inl ⟨a, vs, _, v, e, rfl, p, e2, k _ _ (.here m r h3)⟩
  · exact h.elim
theorem qe_ix (ha : QE X B W a ta) (hb : QE X B W b tb) (hs : PlainIx b := by exact fun _ _ => rfl) : QE X B W (.Subscript a b pos) (aOp bIx ta tb) :=
  pe_imp (pe_ix ix_seq ha hb hs) fun _ _ _ h => lift_op bIx_ok h

/-! ### slices -/
abbrev AO := AS → Mem → (Option Int → Mem → Prop) → AXs → Prop
def LO (K : PySem.W.Frag) (B : Hp) (W : WX) (t : AO) : TO := fun s H R => ∃ G σ M Q E, SS K B G σ M s H ∧ t σ M Q E ∧ (∀ o H' M' G', Same G G' → SM K G' M' H' → Q o M' → R o H') ∧ ∀ c d s' H', Wx K B E c d s' H' → W c d s' H'
theorem po_imp {e : Option Expr} {t t' : TO} (h : PO X e t) (k : ∀ σ H Q, t' σ H Q → t σ H Q) : PO X e t' := ⟨fun pins s σ H Q I q => h.run pins s σ H Q I (k σ H Q q)⟩
abbrev QO (X : Cx) (B : Hp) (W : WX) (e : Option Expr) (t : AO) : Prop := PO X e (LO X.K B W t)
@[simp] def aNoPart : AO := fun _ M Q _ => Q none M
@[simp] def aPart (t : AE) : AO := fun σ M Q E => t σ M (fun x M1 => match x with
  | .int i => Q (some i) M1
  | _ => False) E
theorem qo_none : QO X B W none aNoPart := po_imp po_none fun s H R ⟨G, σ, M, Q, E, ss, h, k, kx⟩ => k none H M G (Same.refl G) ss.mem h
theorem qo_some (h : QE X B W e te) : QO X B W (some e) (aPart te) := po_imp (po_some h) fun s H R ⟨G, σ, M, Q, E, ss, h, k, kx⟩ => ⟨G, σ, M, _, E, ss, h, fun v H1 ⟨x, M1, G1, e, m, r, q⟩ => by
  match x, q with
  | .int i, q => exact ⟨i, rp_int r, k _ _ M1 G1 e m q⟩, kx⟩
/-- the items of xs[lo:hi] -/
def cut {α : Type} (xs : List α) (lo hi : Option Int) : List α := (xs.drop (HT.sIx xs.length 0 lo)).take (HT.sIx xs.length xs.length hi - HT.sIx xs.length 0 lo)
theorem cut_rp {K : PySem.W.Frag} {G : Hp} {ds : List D} {vs : List V} (r : RpA K G ds vs) (lo hi : Option Int) : RpA K G (cut ds lo hi) (cutV vs lo hi) := by
  unfold cut cutV
  rw [r.len]
  exact (r.drop _).take _
theorem sIx_le {n d : Nat} (hd : d ≤ n) (o : Option Int) : HT.sIx n d o ≤ n := HT.sIx_le n d hd o
theorem cut_whole {α : Type} {xs : List α} {lo hi : Option Int} (h : HT.sIx xs.length 0 lo = 0 ∧ HT.sIx xs.length xs.length hi = xs.length) : cut xs lo hi = xs := by
  unfold cut
  rw [h.1, h.2]
  simp
@[simp] def sSl (x : D) (lo hi : Option Int) (M : Mem) (Q : DK) : Prop := match x with
  | .tup xs => Q (.tup (cut xs lo hi)) M
  | .str z => z.length ≤ sizeLine ∧ Q (.str (cutS z lo hi)) M
  | x => ∃ xs, LsAt M x xs ∧ ∀ p, M p = none → Q (.ref p) (mset M p (.lst (cut xs lo hi)))
@[simp] def aSl (te : AE) (tl th : AO) : AE := fun σ M Q E => te σ M (fun x M1 => tl σ M1 (fun l M2 => th σ M2 (fun u M3 => sSl x l u M3 Q) E) E) E
end
end HA
namespace HA
open PySem PySem.Spec L2
section
variable {X : Cx} {B : Hp} {W : WX} {a b c e o i : Expr} {es rest : List Expr} {ta tb tc te : AE} {tt tu : AT} {tas : AA} {tl th : AO} {lo hi : Option Expr} {pos p2 : Pos}
def rSlAll (K : PySem.W.Frag) : V → Option Int → Option Int → Hp → VK → Prop := fun x lo hi H Q => (rSlA K x lo hi H Q ∨ rSlS x lo hi H Q) ∨ rSlL K x lo hi H Q
theorem sl_all : SlR X (rSlAll X.K) := (sl_tupA.or sl_str).or sl_list
theorem sSl_ok {K : PySem.W.Frag} {G H : Hp} {M : Mem} {x : D} {v : V} {l h : Option Int} {Q : DK} {R : VK} (m : SM K G M H) (r : Rp K G x v) (q : sSl x l h M Q) (k : ∀ v H', Kv K G Q v H' → R v H') : rSlAll K v l h H R := (by exact HA.Wq.get : @HA.Wq (rSlAll K v l h H R) (by
  unfold sSl at q
  split at q
  · obtain ⟨a, vs, rfl, p, t⟩ := rp_tup r
    refine .inl (.inl ⟨a, vs, rfl, same_sqt m.same p, fun z => ?_, fun _ p hp => Kv.tup m k (cut_rp t l h) hp q⟩)
    rw [← t.len] at z
    rw [cut_whole z] at q
    exact k _ _ (.here m r q)
  · cases r
    exact .inl (.inr ⟨_, rfl, q.1, k _ _ (.here m (.str _) q.2)⟩)
  · obtain ⟨xs, h1, h2⟩ := q
    refine lsAt m r h1 fun a vs e p t => ?_
    exact .inr ⟨a, vs, e, p, fun p hp => Kv.lst m k (cut_rp t l h) hp h2⟩))
theorem qe_slice (he : QE X B W e te) (hl : QO X B W lo tl) (hu : QO X B W hi th) : QE X B W (.Subscript e (.Slice lo hi none p2) pos) (aSl te tl th) :=
  pe_imp (pe_slice sl_all he hl hu) fun s H R ⟨G, σ, M, Q, E, ss, h, k, kx⟩ => by
    refine ⟨G, σ, M, _, E, ss, h, fun v H1 ⟨x, M1, G1, e1, m1, r1, q1⟩ => ?_, kx⟩
    refine ⟨G1, σ, M1, _, E, ss.with e1 m1, q1, fun l H2 M2 G2 e2 m2 q2 => ?_, kx⟩
    refine ⟨G2, σ, M2, _, E, (ss.with e1 m1).with e2 m2, q2, fun u H3 M3 G3 e3 m3 q3 => ?_, kx⟩
    exact sSl_ok m3 ((r1.up e2).up e3) q3 fun v H' kv => k v H' (kv.lift (e1.trans (e2.trans e3)))
/-! ### xs[::-1] of a list -/
@[simp] def aRevL (te : AE) : AE := fun σ M Q E => te σ M (fun x M1 => ∃ xs, LsAt M1 x xs ∧ ∀ p, M1 p = none → Q (.ref p) (mset M1 p (.lst xs.reverse))) E
theorem qe_revL {j : Nat} {p1 q1 p3 : Pos} (he : QE X B W e te) : QE X B W (.Subscript e (.Slice none none (some (.UnaryOp .USub (.Constant (.int 1) j p1) q1)) p3) pos) (aRevL te) :=
  pe_imp (pe_revL he) fun s H R ⟨G, σ, M, Q, E, ss, h, k, kx⟩ => ⟨G, σ, M, _, E, ss, h, fun v H1 ⟨x, M1, G1, e1, m1, r1, xs, h1, h2⟩ =>
    lsAt m1 r1 h1 fun a vs e p t => ⟨a, vs, e, p, fun p hp => Kv.lst m1 (fun v H' kv => k v H' (kv.lift e1)) t.reverse hp h2⟩, kx⟩

/-! ### a call of a built-in by values -/
abbrev AC := List D → Mem → DK → Prop
def OkC (K : PySem.W.Frag) (r : AC) (rc : List V → Hp → VK → Prop) : Prop := ∀ G M H xs vs Q R, SM K G M H → RpA K G xs vs → r xs M Q → (∀ v H', Kv K G Q v H' → R v H') → rc vs H R
@[simp] def aCB (r : AC) (t : AA) : AE := fun σ M Q E => t σ M (fun xs M1 => r xs M1 Q) E
def CallB (X : Cx) (id : String) (r : AC) : Prop := ∃ rc, CallR X (.builtin id) rc ∧ OkC X.K r rc
def CallT (X : Cx) (T : String) (r : AC) : Prop := ∃ rc, CallR X (.type T) rc ∧ OkC X.K r rc
theorem lift_cb {K : PySem.W.Frag} {r : AC} {rc : List V → Hp → VK → Prop} (ok : OkC K r rc) {s : L2.St} {H : Hp} {R : VK} (h : LE K B W (aCB r tas) s H R) : tCB rc (LA K B W tas) s H R := by
  obtain ⟨G, σ, M, Q, E, ss, h, k, kx⟩ := h
  exact ⟨G, σ, M, _, E, ss, h, fun vs H1 ds M1 G1 e m t q => ok G1 M1 H1 ds vs Q R m t q fun v H2 kv => k v H2 (kv.lift e), kx⟩
theorem qe_callB {x : Str} {id : String} {r : AC} {p : Pos} (o : CallB X id r) (hg : Gl X x) (hm : X.mg x = none) (hv : bootBuiltins x = some (.builtin id)) (ha : QA X B W (e :: es) tas) (hn : x ≠ "__name__" := by decide) (hdb : (x == ("__debug__" : Str)) = false := by decide)
    (he : starEach (e :: es) X.env = (false, eval e X.env) :: starEach es X.env := by rfl) (hpl : (backTo pos (starEach es X.env)).any (·.1) = false := by rfl) : QE X B W (.Call (.Name x p) (e :: es) [] pos) (aCB r tas) := by
  obtain ⟨rc, ho, ok⟩ := o
  exact pe_imp (pe_callB ho hg hm hv ha hn hdb he hpl) fun _ _ _ h => lift_cb ok h
theorem qe_callT {x : Str} {T : String} {r : AC} {p : Pos} (o : CallT X T r) (hg : Gl X x) (hm : X.mg x = none) (hv : bootBuiltins x = some (.type T)) (ha : QA X B W (e :: es) tas) (hn : x ≠ "__name__" := by decide) (hdb : (x == ("__debug__" : Str)) = false := by decide)
    (he : starEach (e :: es) X.env = (false, eval e X.env) :: starEach es X.env := by rfl) (hpl : (backTo pos (starEach es X.env)).any (·.1) = false := by rfl) : QE X B W (.Call (.Name x p) (e :: es) [] pos) (aCB r tas) := by
  obtain ⟨rc, ho, ok⟩ := o
  exact pe_imp (pe_callTy ho hg hm hv ha hn hdb he hpl) fun _ _ _ h => lift_cb ok h
section
variable {K : PySem.W.Frag} {G : Hp}
theorem rpa1 {x : D} {vs : List V} (h : RpA K G [x] vs) : ∃ v, vs = [v] ∧ Rp K G x v := by cases h with | cons h t => cases t; exact ⟨_, rfl, h⟩
theorem rpa2 {x y : D} {vs : List V} (h : RpA K G [x, y] vs) : ∃ v w, vs = [v, w] ∧ Rp K G x v ∧ Rp K G y w := by
  cases h with | cons h t => obtain ⟨w, rfl, r⟩ := rpa1 t; exact ⟨_, w, rfl, h, r⟩
end
/-- one int in, an int out -/
@[simp] def c1I (f : Int → Int) : AC := fun xs M Q => match xs with
  | [.int i] => Q (.int (f i)) M
  | _ => False
def absI (i : Int) : Int := if i < 0 then -i else i
theorem cb_abs : CallB X "abs" (c1I absI) := ⟨_, call_abs, fun G M H xs vs Q R m r h k => by
  match xs, h with
  | [.int i], h => obtain ⟨v, rfl, rv⟩ := rpa1 r; cases rv; exact ⟨i, rfl, k _ _ (.here m (.int _) h)⟩⟩
@[simp] def cInt : AC := fun xs M Q => match xs with
  | [.int i] => Q (.int i) M
  | [.bl k] => Q (.int (if k then 1 else 0)) M
  | _ => False
theorem ct_int : CallT X "int" cInt := ⟨_, call_int1, fun G M H xs vs Q R m r h k => by
  match xs, h with
  | [.int i], h => obtain ⟨v, rfl, rv⟩ := rpa1 r; cases rv; exact .inl ⟨i, rfl, k _ _ (.here m (.int _) h)⟩
  | [.bl i], h => obtain ⟨v, rfl, rv⟩ := rpa1 r; cases rv; exact .inr ⟨i, rfl, k _ _ (.here m (.int _) h)⟩⟩
@[simp] def cLen : AC := fun xs M Q => match xs with
  | [.tup ys] => Q (.int ys.length) M
  | [.str z] => z.length ≤ sizeLine ∧ Q (.int z.length) M
  | [x] => ∃ ys, LsAt M x ys ∧ Q (.int ys.length) M
  | _ => False
theorem cb_len : CallB X "len" cLen := ⟨_, call_len, fun G M H xs vs Q R m r h k => by
  unfold cLen at h
  split at h
  · obtain ⟨v, rfl, rv⟩ := rpa1 r
    obtain ⟨a, ws, rfl, p, t⟩ := rp_tup rv
    exact ⟨_, ws.length, rfl, .inr ⟨ws, same_sqt m.same p, rfl⟩, k _ _ (.here m (by rw [← t.len]; exact .int _) h)⟩
  · obtain ⟨v, rfl, rv⟩ := rpa1 r
    cases rv
    exact ⟨_, _, rfl, ⟨h.1, rfl⟩, k _ _ (.here m (.int _) h.2)⟩
  · obtain ⟨v, rfl, rv⟩ := rpa1 r
    obtain ⟨ys, h1, h2⟩ := h
    refine lsAt m rv h1 fun a ws e p t => ?_
    subst e
    exact ⟨_, ws.length, rfl, .inl ⟨ws, p, rfl⟩, k _ _ (.here m (by rw [← t.len]; exact .int _) h2)⟩
  · exact h.elim⟩
/-- min, max of two ints -/
@[simp] def c2I (f : Int → Int → Int) : AC := fun xs M Q => match xs with
  | [.int i, .int j] => Q (.int (f i j)) M
  | _ => False
theorem cb_max (hc : X.calm = true) : CallB X "max" (c2I fun i j => if j > i then j else i) := ⟨_, call_max2 hc, fun G M H xs vs Q R m r h k => by
  match xs, h with
  | [.int i, .int j], h => obtain ⟨v, w, rfl, r1, r2⟩ := rpa2 r; cases r1; cases r2; exact ⟨i, j, rfl, k _ _ (.here m (.int _) h)⟩⟩
theorem cb_min (hc : X.calm = true) : CallB X "min" (c2I fun i j => if j < i then j else i) := ⟨_, call_min2 hc, fun G M H xs vs Q R m r h k => by
  match xs, h with
  | [.int i, .int j], h => obtain ⟨v, w, rfl, r1, r2⟩ := rpa2 r; cases r1; cases r2; exact ⟨i, j, rfl, k _ _ (.here m (.int _) h)⟩⟩
/-- tuple(list), tuple(tuple); list(..) -/
@[simp] def cTuple : AC := fun xs M Q => match xs with
  | [.tup ys] => Q (.tup ys) M
  | [x] => ∃ ys, LsAt M x ys ∧ Q (.tup ys) M
  | _ => False
theorem ct_tuple : CallT X "tuple" cTuple := ⟨_, call_tuple_of, fun G M H xs vs Q R m r h k => by
  unfold cTuple at h
  split at h
  · obtain ⟨v, rfl, rv⟩ := rpa1 r
    obtain ⟨a, ws, rfl, p, t⟩ := rp_tup rv
    exact ⟨a, ws, rfl, .inr ⟨same_sqt m.same p, k _ _ (.here m rv h)⟩⟩
  · obtain ⟨v, rfl, rv⟩ := rpa1 r
    obtain ⟨ys, h1, h2⟩ := h
    refine lsAt m rv h1 fun a ws e p t => ?_
    subst e
    exact ⟨a, ws, rfl, .inl ⟨p, fun l hl => Kv.tup m k t hl h2⟩⟩
  · exact h.elim⟩
@[simp] def cList : AC := fun xs M Q => match xs with
  | [.tup ys] => ∀ p, M p = none → Q (.ref p) (mset M p (.lst ys))
  | [x] => ∃ ys, LsAt M x ys ∧ ∀ p, M p = none → Q (.ref p) (mset M p (.lst ys))
  | _ => False
theorem ct_list : CallT X "list" cList := ⟨_, call_list_of, fun G M H xs vs Q R m r h k => by
  unfold cList at h
  split at h
  · obtain ⟨v, rfl, rv⟩ := rpa1 r
    obtain ⟨a, ws, rfl, p, t⟩ := rp_tup rv
    exact ⟨a, ws, rfl, .inr (same_sqt m.same p), fun l hl => Kv.lst m k t hl h⟩
  · obtain ⟨v, rfl, rv⟩ := rpa1 r
    obtain ⟨ys, h1, h2⟩ := h
    refine lsAt m rv h1 fun a ws e p t => ?_
    subst e
    exact ⟨a, ws, rfl, .inl p, fun l hl => Kv.lst m k t hl h2⟩
  · exact h.elim⟩
def cSum : AC := fun xs M Q => match xs with
  | [x] => ∃ ns : List Int, (x = .tup (ns.map D.int) ∨ LsAt M x (ns.map D.int)) ∧ Q (.int ns.sum) M
  | _ => False

/-! ### methods of lists by values -/
abbrev AM := D → List D → Mem → DK → Prop
def OkM (K : PySem.W.Frag) (T : String) (r : AM) (rc : V → List V → Hp → VK → Prop) : Prop :=
  (∀ G M H x xs xv vs Q R, SM K G M H → Rp K G x xv → RpA K G xs vs → r x xs M Q → (∀ v H', Kv K G Q v H' → R v H') → tyV K T xv H ∧ rc xv vs H R)
@[simp] def aMt0 (r : AM) (to : AE) : AE := fun σ M Q E => to σ M (fun x M1 => r x [] M1 Q) E
/-- the receiver is a list already ahead of the arguments -/
def isLs (M : Mem) (x : D) : Prop := ∃ xs, LsAt M x xs
@[simp] def aMt (r : AM) (to : AE) (t : AA) : AE := fun σ M Q E => to σ M (fun x M1 => isLs M1 x ∧ t σ M1 (fun xs M2 => r x xs M2 Q) E) E
theorem tyV_lst {K : PySem.W.Frag} {G H : Hp} {M : Mem} {x : D} {v : V} (m : SM K G M H) (r : Rp K G x v) (h : isLs M x) : tyV K "list" v H := (by exact HA.Wq.get : @HA.Wq (tyV K "list" v H) (by
  obtain ⟨xs, h⟩ := h
  refine lsAt m r h fun a vs e p t => ?_
  subst e
  exact .inl ⟨rfl, vs, p⟩))
end
end HA
namespace HA
open PySem PySem.Spec L2
section
variable {X : Cx} {B : Hp} {W : WX} {a b c e o i : Expr} {es rest : List Expr} {ta tb tc te : AE} {tt tu : AT} {tas : AA} {tl th : AO} {lo hi : Option Expr} {pos p2 apos cpos : Pos}
def OkMt (K : PySem.W.Frag) (r : AM) (rc : V → List V → Hp → VK → Prop) : Prop := ∀ G M H x xs xv vs Q R, SM K G M H → Rp K G x xv → RpA K G xs vs → r x xs M Q → (∀ v H', Kv K G Q v H' → R v H') → rc xv vs H R
theorem qe_lm0 {name : Str} {id : String} {r : AM} {rc : V → List V → Hp → VK → Prop} (slot : Slot "list" name id) (hty : typeOf (.builtin id) = pure (.type "method_descriptor")) (hm : MtR X id rc) (ok : OkMt X.K r rc) (il : ∀ x M Q, r x [] M Q → isLs M x) (ho : QE X B W o ta)
    (hbase : attributeBase o name X.env (eval o X.env) = eval o X.env := by rfl) (hline : (apos.endLine == cpos.line) = true := by rfl) : QE X B W (.Call (.Attribute o name apos) [] [] cpos) (aMt0 r ta) :=
  pe_imp (pe_bm0 PySem.F.plainAttrs_list slot hty hm ho hbase hline) fun s H R ⟨G, σ, M, Q, E, ss, h, k, kx⟩ => ⟨G, σ, M, _, E, ss, h, fun v H1 ⟨x, M1, G1, e, m, rx, q⟩ =>
    ⟨tyV_lst m rx (il x M1 Q q), ok G1 M1 H1 x [] v [] Q R m rx .nil q fun v H2 kv => k v H2 (kv.lift e)⟩, kx⟩
theorem qe_lm {name : Str} {id : String} {r : AM} {rc : V → List V → Hp → VK → Prop} (slot : Slot "list" name id) (hty : typeOf (.builtin id) = pure (.type "method_descriptor")) (hm : MtR X id rc) (ok : OkMt X.K r rc) (ho : QE X B W o ta) (ha : QA X B W (e :: es) tas)
    (hbase : attributeBase o name X.env (eval o X.env) = eval o X.env := by rfl)
    (hfew : ((backTo cpos (starEach (e :: es) X.env)).all (fun x => !x.1) && (backToKw cpos (keywordEach [] X.env)).all (fun x => x.1.isSome)
      && decide ((e :: es).length + ([] : List Keyword).length + (if ([] : List Keyword).isEmpty then 0 else 1) < 30)) = true := by rfl)
    (hline : (apos.endLine == cpos.line) = true := by rfl) (hs : starEach (e :: es) X.env = (false, eval e X.env) :: starEach es X.env := by rfl) (hplain : (backTo cpos (starEach es X.env)).any (·.1) = false := by rfl) :
    QE X B W (.Call (.Attribute o name apos) (e :: es) [] cpos) (aMt r ta tas) :=
  pe_imp (pe_bm PySem.F.plainAttrs_list slot hty hm ho ha hbase hfew hline hs hplain) fun s H R ⟨G, σ, M, Q, E, ss, h, k, kx⟩ => ⟨G, σ, M, _, E, ss, h, fun v H1 ⟨x, M1, G1, e1, m1, rx, q⟩ =>
    ⟨tyV_lst m1 rx q.1, G1, σ, M1, _, E, ss.with e1 m1, q.2, fun vs H2 xs M2 G2 e2 m2 ra q2 => ok G2 M2 H2 x xs v vs Q R m2 (rx.up e2) ra q2 fun v H3 kv => k v H3 (kv.lift (e1.trans e2)), kx⟩, kx⟩
/-- a cell's list is replaced -/
theorem Kv.wr {K : PySem.W.Frag} {G H : Hp} {M : Mem} {Q : DK} {R : VK} {p : Addr} {xs ys : List D} {vs : List V} {d : D} {v : V} (m : SM K G M H) (k : ∀ v H', Kv K G Q v H' → R v H') (h : M p = some (.lst xs)) (r : RpA K G ys vs) (rv : Rp K G d v) (q : Q d (mset M p (.lst ys))) : R v (upd H p (.lst vs)) :=
  k _ _ ⟨d, mset M p (.lst ys), G, Same.refl G, m.write h ⟨vs, r, upd_same⟩, rv, q⟩
theorem cellL {K : PySem.W.Frag} {G H : Hp} {M : Mem} {p : Addr} {xs : List D} (m : SM K G M H) (h : M p = some (.lst xs)) : ∃ vs, RpA K G xs vs ∧ H p = some (.lst vs) := (m.cell p _ h).2
/-- xs.append(e) -/
@[simp] def mAppend : AM := fun x ys M Q => match x, ys with
  | .ref p, [y] => ∃ xs, M p = some (.lst xs) ∧ xs.length < sizeLine ∧ Q .non (mset M p (.lst (xs ++ [y])))
  | _, _ => False
theorem mAppend_ok {K : PySem.W.Frag} : OkMt K mAppend rAppend := fun G M H x xs xv vs Q R m rx ra h k => by
  unfold mAppend at h
  split at h
  · obtain ⟨ys, h1, h2, h3⟩ := h
    obtain ⟨v, rfl, r⟩ := rpa1 ra
    cases rx
    obtain ⟨ws, t, e⟩ := cellL m h1
    exact ⟨_, ws, v, rfl, rfl, e, by rw [← t.len]; exact h2, Kv.wr m k h1 (t.app (.cons r .nil)) .non h3⟩
  · exact h.elim
theorem qe_append (ho : QE X B W o ta) (ha : QA X B W [e] tas)
    (hbase : attributeBase o "append" X.env (eval o X.env) = eval o X.env := by rfl)
    (hfew : ((backTo cpos (starEach [e] X.env)).all (fun x => !x.1) && (backToKw cpos (keywordEach [] X.env)).all (fun x => x.1.isSome)
      && decide (([e] : List Expr).length + ([] : List Keyword).length + (if ([] : List Keyword).isEmpty then 0 else 1) < 30)) = true := by rfl)
    (hline : (apos.endLine == cpos.line) = true := by rfl) (hs : starEach [e] X.env = (false, eval e X.env) :: starEach [] X.env := by rfl) (hplain : (backTo cpos (starEach [] X.env)).any (·.1) = false := by rfl) :
    QE X B W (.Call (.Attribute o "append" apos) [e] [] cpos) (aMt mAppend ta tas) := qe_lm PySem.F.slot_list_append PySem.F.type_list_append mt_append mAppend_ok ho ha hbase hfew hline hs hplain
/-- xs.extend(list or tuple) -/
@[simp] def mExtend : AM := fun x ys M Q => match x, ys with
  | .ref p, [y] => ∃ xs zs, M p = some (.lst xs) ∧ LstAt M y zs ∧ xs.length + zs.length ≤ sizeLine ∧ Q .non (mset M p (.lst (xs ++ zs)))
  | _, _ => False
theorem mExtend_ok {K : PySem.W.Frag} : OkMt K mExtend rExtend := fun G M H x xs xv vs Q R m rx ra h k => by
  unfold mExtend at h
  split at h
  · obtain ⟨ys, zs, h1, h2, h3, h4⟩ := h
    obtain ⟨v, rfl, r⟩ := rpa1 ra
    cases rx
    obtain ⟨ws, t, e⟩ := cellL m h1
    refine lstAt m r h2 fun b us eb pb tb => ?_
    subst eb
    exact ⟨_, b, ws, us, rfl, rfl, e, pb, by rw [← t.len, ← tb.len]; exact h3, Kv.wr m k h1 (t.app tb) .non h4⟩
  · exact h.elim
theorem qe_extend (ho : QE X B W o ta) (ha : QA X B W [e] tas)
    (hbase : attributeBase o "extend" X.env (eval o X.env) = eval o X.env := by rfl)
    (hfew : ((backTo cpos (starEach [e] X.env)).all (fun x => !x.1) && (backToKw cpos (keywordEach [] X.env)).all (fun x => x.1.isSome)
      && decide (([e] : List Expr).length + ([] : List Keyword).length + (if ([] : List Keyword).isEmpty then 0 else 1) < 30)) = true := by rfl)
    (hline : (apos.endLine == cpos.line) = true := by rfl) (hs : starEach [e] X.env = (false, eval e X.env) :: starEach [] X.env := by rfl) (hplain : (backTo cpos (starEach [] X.env)).any (·.1) = false := by rfl) :
    QE X B W (.Call (.Attribute o "extend" apos) [e] [] cpos) (aMt mExtend ta tas) := qe_lm PySem.F.slot_list_extend PySem.F.type_list_extend mt_extend mExtend_ok ho ha hbase hfew hline hs hplain
/-- xs.pop() -/
@[simp] def mPop : AM := fun x ys M Q => match x, ys with
  | .ref p, [] => ∃ xs y, M p = some (.lst xs) ∧ xs[xs.length - 1]? = some y ∧ Q y (mset M p (.lst xs.dropLast))
  | _, _ => False
theorem mPop_ok {K : PySem.W.Frag} : OkMt K mPop rPop := fun G M H x xs xv vs Q R m rx ra h k => by
  unfold mPop at h
  split at h
  · obtain ⟨ys, y, h1, h2, h3⟩ := h
    cases ra
    cases rx
    obtain ⟨ws, t, e⟩ := cellL m h1
    obtain ⟨v, hv, rv⟩ := t.get h2
    exact ⟨_, ws, v, rfl, rfl, e, by rw [← t.len]; exact hv, Kv.wr m k h1 t.dropLast rv h3⟩
  · exact h.elim
theorem qe_pop (ho : QE X B W o ta) (hbase : attributeBase o "pop" X.env (eval o X.env) = eval o X.env := by rfl) (hline : (apos.endLine == cpos.line) = true := by rfl) :
    QE X B W (.Call (.Attribute o "pop" apos) [] [] cpos) (aMt0 mPop ta) := qe_lm0 PySem.F.slot_list_pop PySem.F.type_list_pop mt_pop mPop_ok (fun x M Q h => by
      unfold mPop at h
      split at h
      · obtain ⟨xs, y, h1, _⟩ := h; exact ⟨xs, h1⟩
      · exact h.elim) ho hbase hline

/-! ### fields of instances -/
@[simp] def fGet (K : PySem.W.Frag) (f : Str) (x : D) (M : Mem) (Q : DK) : Prop := match x with
  | .ref a => ∃ C fs d, M a = some (.ins C fs) ∧ Cls K C ∧ NoAttr K C f ∧ fs.lookup f = some d ∧ Q d M
  | _ => False
@[simp] def aFld (K : PySem.W.Frag) (ta : AE) (f : Str) : AE := fun σ M Q E => ta σ M (fun x M1 => fGet K f x M1 Q) E
theorem qe_fld {f : Str} (he : QE X B W e te) (hb : attributeBase e f X.env (eval e X.env) = eval e X.env := by rfl) : QE X B W (.Attribute e f pos) (aFld X.K te f) :=
  pe_imp (pe_fld he hb) fun s H R ⟨G, σ, M, Q, E, ss, h, k, kx⟩ => ⟨G, σ, M, _, E, ss, h, fun v H1 ⟨x, M1, G1, e, m, r, q⟩ => by
    match x, q with
    | .ref a, q =>
      obtain ⟨C, fs, d, h1, cl, na, h2, h3⟩ := q
      obtain ⟨_, dx, vs, fr, eH⟩ := m.cell a _ h1
      obtain ⟨w, hw, rw'⟩ := fr.look h2
      cases r
      exact ⟨a, C, dx, vs, w, rfl, eH, cl, na, hw, k _ _ ((Kv.here m rw' h3).lift e)⟩, kx⟩
end
end HA
/-! A4: targets, statements, loops, comprehensions over trees. -/
namespace HA
open PySem PySem.Spec L2

structure AEn where
  nx : AS → Mem → Prop
  rt : DK
  bk : AS → Mem → Prop := fun _ _ => False
  ct : AS → Mem → Prop := fun _ _ => False
  xx : AXs
abbrev ASt := AEn → AS → Mem → Prop
def LS (K : PySem.W.Frag) (B : Hp) (W : WX) (t : ASt) : TS := fun Dc s H => ∃ G σ M D, SS K B G σ M s H ∧ t D σ M ∧
  (∀ s' H' σ' M' G', Same G G' → SS K B G' σ' M' s' H' → D.nx σ' M' → Dc.nx s' H') ∧ (∀ v H', Kv K G D.rt v H' → Dc.rt v H') ∧
  (∀ s' H' σ' M' G', Same G G' → SS K B G' σ' M' s' H' → D.bk σ' M' → Dc.bk s' H') ∧ (∀ s' H' σ' M' G', Same G G' → SS K B G' σ' M' s' H' → D.ct σ' M' → Dc.ct s' H') ∧ ∀ c d s' H', Wx K B D.xx c d s' H' → W c d s' H'
abbrev QS (X : Cx) (B : Hp) (W : WX) (e : Stmt) (t : ASt) : Prop := PS X e (LS X.K B W t)
abbrev QSs (X : Cx) (B : Hp) (W : WX) (e : List Stmt) (t : ASt) : Prop := PSs X e (LS X.K B W t)

section
variable {X : Cx} {B : Hp} {W : WX} {a b c e o i : Expr} {es rest : List Expr} {ta tb tc te : AE} {tt tu : AT} {tas : AA} {pos pos' : Pos} {st : Stmt} {sts ss1 ss2 : List Stmt} {t u : ASt}
@[simp] def aNext : ASt := fun D σ M => D.nx σ M
@[simp] def aSeq (t u : ASt) : ASt := fun D σ M => t { D with nx := u D } σ M
theorem qss_nil : QSs X B W [] aNext := pss_imp pss_nil fun Dc s H ⟨G, σ, M, D, ss, h, kn, _⟩ => kn s H σ M G (Same.refl G) ss h
theorem qss_cons (h1 : QS X B W st t) (h2 : QSs X B W sts u) : QSs X B W (st :: sts) (aSeq t u) := pss_imp (pss_cons h1 h2) fun Dc s H ⟨G, σ, M, D, ss, h, kn, kr, kb, kc, kx⟩ =>
  ⟨G, σ, M, { D with nx := u D }, ss, h, fun s' H' σ' M' G' e ss' h' => ⟨G', σ', M', D, ss', h', fun a b c d f e' => kn a b c d f (e.trans e'), fun v H' kv => kr v H' (kv.lift e), fun a b c d f e' => kb a b c d f (e.trans e'), fun a b c d f e' => kc a b c d f (e.trans e'), kx⟩, kr, kb, kc, kx⟩
theorem qss_one (h1 : QS X B W st t) : QSs X B W [st] t := pss_one h1
theorem qs_pass : QS X B W (.Pass pos) aNext := ps_imp ps_pass fun Dc s H ⟨G, σ, M, D, ss, h, kn, _⟩ => kn s H σ M G (Same.refl G) ss h
@[simp] def aBreak : ASt := fun D σ M => D.bk σ M
@[simp] def aCont : ASt := fun D σ M => D.ct σ M
theorem qs_break : QS X B W (.Break pos) aBreak := ps_imp ps_break fun Dc s H ⟨G, σ, M, D, ss, h, kn, kr, kb, kc, kx⟩ => kb s H σ M G (Same.refl G) ss h
theorem qs_continue : QS X B W (.Continue pos) aCont := ps_imp ps_continue fun Dc s H ⟨G, σ, M, D, ss, h, kn, kr, kb, kc, kx⟩ => kc s H σ M G (Same.refl G) ss h
theorem qs_doc {x j} : QS X B W (.Expr (.Constant (.str x) j pos) pos') aNext := ps_imp ps_doc fun Dc s H ⟨G, σ, M, D, ss, h, kn, _⟩ => kn s H σ M G (Same.refl G) ss h
@[simp] def aDrop (te : AE) : ASt := fun D σ M => te σ M (fun _ M' => D.nx σ M') D.xx
theorem qs_expr (he : QE X B W e te) (hs : swapsWith e none pos.line X.env = pure false := by rfl) : QS X B W (.Expr e pos) (aDrop te) := ps_imp (ps_expr he hs) fun Dc s H ⟨G, σ, M, D, ss, h, kn, kr, kb, kc, kx⟩ =>
  ⟨G, σ, M, _, D.xx, ss, h, fun v H' ⟨d, M', G', e, m, r, q⟩ => kn s H' σ M' G' e (ss.with e m) q, kx⟩
@[simp] def aRet (te : AE) : ASt := fun D σ M => te σ M D.rt D.xx
theorem qs_ret (he : QE X B W e te) : QS X B W (.Return (some e) pos) (aRet te) := ps_imp (ps_ret he) fun Dc s H ⟨G, σ, M, D, ss, h, kn, kr, kb, kc, kx⟩ =>
  ⟨G, σ, M, D.rt, D.xx, ss, h, fun v H' kv => kr v H' kv, kx⟩
@[simp] def aRetN : ASt := fun D _ M => D.rt .non M
theorem qs_retN : QS X B W (.Return none pos) aRetN := ps_imp ps_retN fun Dc s H ⟨G, σ, M, D, ss, h, kn, kr, kb, kc, kx⟩ => kr _ _ (Kv.here ss.mem .non h)
@[simp] def aIf (tt : AT) (t u : ASt) : ASt := fun D σ M => tt σ M (fun b M1 => (b = true → t D σ M1) ∧ (b = false → u D σ M1)) D.xx
theorem qs_if (hc : QT X B W c tt) (h1 : QSs X B W ss1 t) (h2 : QSs X B W ss2 u) : QS X B W (.If c ss1 ss2 pos) (aIf tt t u) := ps_imp (ps_if hc h1 h2) fun Dc s H ⟨G, σ, M, D, ss, h, kn, kr, kb, kc, kx⟩ =>
  ⟨G, σ, M, _, D.xx, ss, h, fun b H1 M1 G1 e m q => by
    cases b with
    | true => exact iteT ⟨G1, σ, M1, D, ss.with e m, q.1 rfl, fun a b c d f e' => kn a b c d f (e.trans e'), fun v H' kv => kr v H' (kv.lift e), fun a b c d f e' => kb a b c d f (e.trans e'), fun a b c d f e' => kc a b c d f (e.trans e'), kx⟩
    | false => exact iteF ⟨G1, σ, M1, D, ss.with e m, q.2 rfl, fun a b c d f e' => kn a b c d f (e.trans e'), fun v H' kv => kr v H' (kv.lift e), fun a b c d f e' => kb a b c d f (e.trans e'), fun a b c d f e' => kc a b c d f (e.trans e'), kx⟩, kx⟩

/-! ### targets -/
abbrev AG := D → AS → Mem → (AS → Mem → Prop) → AXs → Prop
def KeepO (vs : List Nat) (s s' : List (Option V)) : Prop := s'.length = s.length ∧ ∀ j, j ∉ vs → s'[j]? = s[j]?
theorem KeepO.refl (vs : List Nat) (s : List (Option V)) : KeepO vs s s := ⟨rfl, fun _ _ => rfl⟩
theorem KeepO.trans {vs ws : List Nat} {s s' s'' : List (Option V)} (h : KeepO vs s s') (k : KeepO ws s' s'') : KeepO (vs ++ ws) s s'' := ⟨k.1.trans h.1, fun j hj => by
  rw [List.mem_append, not_or] at hj
  exact (k.2 j hj.2).trans (h.2 j hj.1)⟩
def LG (K : PySem.W.Frag) (B : Hp) (W : WX) (vs : List Nat) (t : AG) : TG := fun v s H R => ∃ G σ M d Q E, SS K B G σ M s H ∧ Rp K G d v ∧ t d σ M Q E ∧ (∀ s' H' σ' M' G', Same G G' → SS K B G' σ' M' s' H' → KeepO vs s s' → Q σ' M' → R s' H') ∧ ∀ c d s' H', Wx K B E c d s' H' → W c d s' H'
abbrev QG (X : Cx) (B : Hp) (W : WX) (vs : List Nat) (e : Expr) (t : AG) : Prop := PG X e (LG X.K B W vs t)
theorem pg_imp {e : Expr} {t t' : TG} (h : PG X e t) (k : ∀ v σ H Q, t' v σ H Q → t v σ H Q) : PG X e t' := ⟨fun pins s σ H v u Q I r q => h.run pins s σ H v u Q I r (k v σ H Q q)⟩
theorem pgs_imp {e : List Expr} {t t' : TGs} (h : PGs X e t) (k : ∀ v σ H Q, t' v σ H Q → t v σ H Q) : PGs X e t' := ⟨fun pins s σ H v u Q I r q => h.run pins s σ H v u Q I r (k v σ H Q q)⟩
theorem SS.set {K : PySem.W.Frag} {G : Hp} {σ : AS} {M : Mem} {s : List (Option V)} {H : Hp} {d : D} {v : V} (ss : SS K B G σ M s H) (j : Nat) (r : Rp K G d v) : SS K B G (σ.set j (some d)) M (s.set j (some v)) H :=
  ⟨ss.base, ss.mem, by simp [ss.len], fun k d' h => by
    by_cases hk : j = k
    · subst hk
      by_cases hl : j < σ.length
      · rw [List.getElem?_set_self hl] at h
        cases h
        exact ⟨v, by rw [List.getElem?_set_self (by rw [← ss.len]; exact hl)], r⟩
      · rw [List.getElem?_eq_none (by simp; omega)] at h
        cases h
    · rw [List.getElem?_set_ne hk] at h
      obtain ⟨v', h1, h2⟩ := ss.sl k d' h
      exact ⟨v', by rw [List.getElem?_set_ne hk]; exact h1, h2⟩⟩
theorem KeepO.set (s : List (Option V)) (j : Nat) (x : Option V) : KeepO [j] s (s.set j x) := ⟨by simp, fun k hk => by
  rw [List.getElem?_set_ne]
  intro e
  subst e
  simp at hk⟩
@[simp] def agName (j : Nat) : AG := fun d σ M Q _ => Q (σ.set j (some d)) M
theorem qg_name (j : Nat) {x : Str} (hN : X.N.Nodup) (hi : X.N[j]? = some x := by rfl) (hx : Loc X.env.scope x := by first | exact Or.inl rfl | exact Or.inr rfl) (hf : X.fn x = true ∨ X.env.scope.names.lookup x = some .local := by first | exact .inl rfl | exact .inr rfl | assumption) : QG X B W [j] (.Name x pos) (agName j) :=
  pg_imp (pg_name hN hi hx hf) fun v s H R ⟨G, σ, M, d, Q, E, ss, r, h, k, kx⟩ => k _ H _ M G (Same.refl G) (ss.set j r) (.set s j _) h
abbrev AGs := List D → AS → Mem → (AS → Mem → Prop) → AXs → Prop
def LGs (K : PySem.W.Frag) (B : Hp) (W : WX) (vs : List Nat) (t : AGs) : TGs := fun v s H R => ∃ G σ M d Q E, SS K B G σ M s H ∧ RpA K G d v ∧ t d σ M Q E ∧ (∀ s' H' σ' M' G', Same G G' → SS K B G' σ' M' s' H' → KeepO vs s s' → Q σ' M' → R s' H') ∧ ∀ c d s' H', Wx K B E c d s' H' → W c d s' H'
abbrev QGs (X : Cx) (B : Hp) (W : WX) (vs : List Nat) (e : List Expr) (t : AGs) : Prop := PGs X e (LGs X.K B W vs t)
@[simp] def agNil : AGs := fun ds σ M Q _ => match ds with
  | [] => Q σ M
  | _ => False
@[simp] def agCons (t : AG) (u : AGs) : AGs := fun ds σ M Q E => match ds with
  | d :: r => t d σ M (fun σ' M' => u r σ' M' Q E) E
  | _ => False
theorem qgs_nil : QGs X B W [] [] agNil := pgs_imp pgs_nil fun v s H R ⟨G, σ, M, d, Q, E, ss, r, h, k, kx⟩ => by
  match d, h with
  | [], h => cases r; exact ⟨rfl, k _ H _ M G (Same.refl G) ss (.refl _ _) h⟩
theorem qgs_cons {vs ws : List Nat} {t : AG} {u : AGs} (h1 : QG X B W vs e t) (h2 : QGs X B W ws es u) (hs : (assignEach (e :: es) X.env).map (·.2) = assign e X.env :: (assignEach es X.env).map (·.2) := by rfl) : QGs X B W (vs ++ ws) (e :: es) (agCons t u) :=
  pgs_imp (pgs_cons h1 h2 hs) fun v s H R ⟨G, σ, M, d, Q, E, ss, r, h, k, kx⟩ => by
    match d, h with
    | d :: ds, h =>
      cases r with
      | cons r1 r2 =>
        exact ⟨_, _, rfl, G, σ, M, d, _, E, ss, r1, h, fun s1 H1 σ1 M1 G1 e1 ss1 k1 q1 => ⟨G1, σ1, M1, ds, Q, E, ss1, r2.up e1, q1, fun s2 H2 σ2 M2 G2 e2 ss2 k2 q2 => k s2 H2 σ2 M2 G2 (e1.trans e2) ss2 (k1.trans k2) q2, kx⟩, kx⟩
theorem pg_or {e : Expr} {t t' : TG} (h : PG X e t) (h' : PG X e t') : PG X e (fun v s H Q => t v s H Q ∨ t' v s H Q) := ⟨fun pins s σ H v u Q I r q => q.elim (h.run pins s σ H v u Q I r) (h'.run pins s σ H v u Q I r)⟩
/-- (a, b, ..) of a tuple or a list -/
@[simp] def agTup (n : Nat) (t : AGs) : AG := fun d σ M Q E => match d with
  | .tup ds => ds.length = n ∧ t ds σ M Q E
  | d => ∃ ds, LsAt M d ds ∧ ds.length = n ∧ t ds σ M Q E
theorem qg_tup {vs : List Nat} {j : Nat} {t : AGs} {n : Nat} (hc : X.calm = true) (h : QGs X B W vs es t) (hn : (assignEach es X.env).length = n := by rfl) (hst : (assignEach es X.env).findIdx? (·.1) = none := by rfl) : QG X B W vs (.Tuple es j pos) (agTup n t) :=
  pg_imp (pg_or (pg_tup hc h hn hst) (pg_lst hc h hn hst)) fun v s H R ⟨G, σ, M, d, Q, E, ss, r, h, k, kx⟩ => by
    unfold agTup at h
    split at h
    · obtain ⟨a, ws, rfl, p, t⟩ := rp_tup r
      exact .inl ⟨a, ws, rfl, same_sqt ss.mem.same p, by rw [← t.len]; exact h.1, G, σ, M, _, Q, E, ss, t, h.2, k, kx⟩
    · obtain ⟨ds, h1, h2, h3⟩ := h
      refine lsAt ss.mem r h1 fun a ws e p t => ?_
      exact .inr ⟨a, ws, e, p, by rw [← t.len]; exact h2, G, σ, M, _, Q, E, ss, t, h3, k, kx⟩
/-- o[i] = .. of a list -/
@[simp] def sSet (o i d : D) (M : Mem) (Q : Mem → Prop) : Prop := match o, i with
  | .ref p, .int k => ∃ xs j, M p = some (.lst xs) ∧ ixN xs.length k = some j ∧ Q (mset M p (.lst (xs.set j d)))
  | _, _ => False
@[simp] def agSub (to ti : AE) : AG := fun d σ M Q E => to σ M (fun o M1 => ti σ M1 (fun i M2 => sSet o i d M2 fun M3 => Q σ M3) E) E
theorem qg_sub (ho : QE X B W o ta) (hi : QE X B W i tb)
    (ha : ∀ v, assign (.Subscript o i pos) X.env v = (do
      let ov ← holding [v] (eval o X.env)
      let iv ← holding [v, ov] (eval i X.env)
      standAt pos
      holding [v, ov, iv] (setItem ov iv v)
      release [v, ov, iv] []) := by intro _; rfl) : QG X B W [] (.Subscript o i pos) (agSub ta tb) :=
  pg_imp (pg_sub ho hi set_list ha) fun v s H R ⟨G, σ, M, d, Q, E, ss, r, h, k, kx⟩ => by
    refine ⟨G, σ, M, _, E, ss, h, fun ov H1 ⟨x, M1, G1, e1, m1, r1, q1⟩ => ⟨G1, σ, M1, _, E, ss.with e1 m1, q1, fun iv H2 ⟨y, M2, G2, e2, m2, r2, q2⟩ => ?_, kx⟩, kx⟩
    match x, y, q2 with
    | .ref p, .int j, q2 =>
      obtain ⟨xs, n, h1, h2, h3⟩ := q2
      obtain ⟨ws, t, eH⟩ := cellL m2 h1
      have r1' := r1.up e2
      cases r1'
      cases r2
      have e12 := e1.trans e2
      refine ⟨p, ws, j, n, rfl, rfl, eH, by rw [← t.len]; exact h2, ?_⟩
      have mw := m2.write (a := p) (o := .lst (ws.set n v)) (c := .lst (xs.set n d)) h1 ⟨_, RpA.set (r.up e12) n t, upd_same⟩
      exact k s _ σ _ G2 e12 ((ss.with e12 mw)) (.refl _ _) h3
/-- target = e -/
@[simp] def aAsg (te : AE) (g : AG) : ASt := fun D σ M => te σ M (fun x M1 => g x σ M1 D.nx D.xx) D.xx
theorem qs_asg {vs : List Nat} {tg : Expr} {g : AG} (he : QE X B W e te) (hg : QG X B W vs tg g) (hs : swapsWithSole [tg] e pos.line X.env = pure false := by rfl) (hw : swappedStores [tg] e X.env = pure none := by rfl)
    (h1 : (assignEach [tg] X.env).map (·.2) = [assign tg X.env] := by rfl) : QS X B W (.Assign [tg] e pos) (aAsg te g) := ps_imp (ps_asg he hg hs hw h1) fun Dc s H ⟨G, σ, M, D, ss, h, kn, kr, kb, kc, kx⟩ =>
  ⟨G, σ, M, _, D.xx, ss, h, fun v H1 ⟨x, M1, G1, e1, m1, r1, q1⟩ => ⟨G1, σ, M1, x, _, D.xx, ss.with e1 m1, r1, q1, fun s' H' σ' M' G' e2 ss' _ q => kn s' H' σ' M' G' (e1.trans e2) ss' q, kx⟩, kx⟩
theorem qs_set (j : Nat) {x : Str} (hN : X.N.Nodup) (he : QE X B W e te) (hi : X.N[j]? = some x := by rfl) (hx : Loc X.env.scope x := by first | exact Or.inl rfl | exact Or.inr rfl) (hs : swapsWith e (some (.Name x pos')) pos.line X.env = pure false := by rfl) (hf : X.fn x = true ∨ X.env.scope.names.lookup x = some .local := by first | exact .inl rfl | exact .inr rfl | assumption) :
    QS X B W (.Assign [.Name x pos'] e pos) (aAsg te (agName j)) := ps_imp (ps_set hN hi hx he hs hf) fun Dc s H ⟨G, σ, M, D, ss, h, kn, kr, kb, kc, kx⟩ =>
  ⟨G, σ, M, _, D.xx, ss, h, fun v H1 ⟨x, M1, G1, e1, m1, r1, q1⟩ => kn _ H1 _ M1 G1 e1 ((ss.with e1 m1).set j r1) q1, kx⟩
/-- a, b = x, y -/
@[simp] def aPar (j l : Nat) (ta : AA) : ASt := fun D σ M => ta σ M (fun ds M1 => match ds with
  | [v, w] => D.nx ((σ.set j (some v)).set l (some w)) M1
  | _ => False) D.xx
theorem qs_par (j l : Nat) {x y : Str} {px py pt : Pos} {kt k2 pt2} (hc : X.calm = true) (hN : X.N.Nodup) (ha : QA X B W [a, b] tas) (hi : X.N[j]? = some x := by rfl) (hj : X.N[l]? = some y := by rfl) (hij : j ≠ l := by decide)
    (hx : X.env.scope.names.lookup x = some .local := by rfl) (hy : X.env.scope.names.lookup y = some .local := by rfl)
    (hw : swappedStores [.Tuple [.Name x px, .Name y py] kt pt] (.Tuple [a, b] k2 pt2) X.env = pure (some [x, y]) := by rfl)
    (hs : swapsWithSole [.Tuple [.Name x px, .Name y py] kt pt] (.Tuple [a, b] k2 pt2) pos.line X.env = pure false := by rfl) :
    QS X B W (.Assign [.Tuple [.Name x px, .Name y py] kt pt] (.Tuple [a, b] k2 pt2) pos) (aPar j l tas) := ps_imp (ps_par hc hN hi hj hij hx hy ha hw hs) fun Dc s H ⟨G, σ, M, D, ss, h, kn, kr, kb, kc, kx⟩ =>
  ⟨G, σ, M, _, D.xx, ss, h, fun vs H1 ds M1 G1 e1 m1 r1 q1 => by
    match ds, q1 with
    | [v, w], q1 =>
      obtain ⟨v', w', rfl, ra, rb⟩ := rpa2 r1
      exact ⟨v', w', rfl, kn _ H1 _ M1 G1 e1 (((ss.with e1 m1).set j ra).set l rb) q1⟩, kx⟩
@[simp] def aPar3 (j l n : Nat) (ta : AA) : ASt := fun D σ M => ta σ M (fun ds M1 => match ds with
  | [u, v, w] => D.nx (((σ.set j (some u)).set l (some v)).set n (some w)) M1
  | _ => False) D.xx
end
end HA
namespace HA
open PySem PySem.Spec L2
section
variable {X : Cx} {B : Hp} {W : WX} {a b c e o i value : Expr} {es rest : List Expr} {ta tb tc te tv : AE} {tt tu : AT} {tas : AA} {pos pos' tpos : Pos} {st : Stmt} {sts ss1 ss2 : List Stmt} {t u : ASt}
theorem rpa3 {K : PySem.W.Frag} {G : Hp} {x y z : D} {vs : List V} (h : RpA K G [x, y, z] vs) : ∃ v w u, vs = [v, w, u] ∧ Rp K G x v ∧ Rp K G y w ∧ Rp K G z u := by
  cases h with | cons h t => obtain ⟨w, u, rfl, r, r2⟩ := rpa2 t; exact ⟨_, w, u, rfl, h, r, r2⟩
theorem qs_par3 (j l n : Nat) {x y z : Str} {px py pz pt : Pos} {kt k2 pt2} (hc : X.calm = true) (hN : X.N.Nodup) (ha : QA X B W [a, b, c] tas) (hi : X.N[j]? = some x := by rfl) (hj : X.N[l]? = some y := by rfl) (hn : X.N[n]? = some z := by rfl) (hij : j ≠ l := by decide) (hil : j ≠ n := by decide) (hjl : l ≠ n := by decide)
    (hx : X.env.scope.names.lookup x = some .local := by rfl) (hy : X.env.scope.names.lookup y = some .local := by rfl) (hz : X.env.scope.names.lookup z = some .local := by rfl)
    (hw : swappedStores [.Tuple [.Name x px, .Name y py, .Name z pz] kt pt] (.Tuple [a, b, c] k2 pt2) X.env = pure (some [x, y, z]) := by rfl)
    (hs : swapsWithSole [.Tuple [.Name x px, .Name y py, .Name z pz] kt pt] (.Tuple [a, b, c] k2 pt2) pos.line X.env = pure false := by rfl) :
    QS X B W (.Assign [.Tuple [.Name x px, .Name y py, .Name z pz] kt pt] (.Tuple [a, b, c] k2 pt2) pos) (aPar3 j l n tas) := ps_imp (ps_par3 hc hN hi hj hn hij hil hjl hx hy hz ha hw hs) fun Dc s H ⟨G, σ, M, D, ss, h, kn, kr, kb, kc, kx⟩ =>
  ⟨G, σ, M, _, D.xx, ss, h, fun vs H1 ds M1 G1 e1 m1 r1 q1 => by
    match ds, q1 with
    | [u, v, w], q1 =>
      obtain ⟨u', v', w', rfl, ra, rb, rc⟩ := rpa3 r1
      exact ⟨u', v', w', rfl, kn _ H1 _ M1 G1 e1 ((((ss.with e1 m1).set j ra).set l rb).set n rc) q1⟩, kx⟩

/-! ### op= -/
def IpOk (X : Cx) (op : Operator) (r : A2) : Prop := ∃ rc, PIp X op rc ∧ OkR X.K r rc
@[simp] def aAug (j : Nat) (r : A2) (te : AE) : ASt := fun D σ M => onSlot σ[j]? fun x => te σ M (fun y M1 => r x y M1 fun z M2 => D.nx (σ.set j (some z)) M2) D.xx
theorem qs_aug (j : Nat) {x : Str} {op : Operator} {r : A2} (hN : X.N.Nodup) (o : IpOk X op r) (he : QE X B W e te) (hi : X.N[j]? = some x := by rfl) (hx : Loc X.env.scope x := by first | exact Or.inl rfl | exact Or.inr rfl) (hf : X.fn x = true ∨ X.env.scope.names.lookup x = some .local := by first | exact .inl rfl | exact .inr rfl | assumption) :
    QS X B W (.AugAssign (.Name x pos') op e pos) (aAug j r te) := by
  obtain ⟨rc, ho, ok⟩ := o
  refine ps_imp (ps_aug hN hi hx he ho hf) fun Dc s H ⟨G, σ, M, D, ss, h, kn, kr, kb, kc, kx⟩ => ?_
  obtain ⟨d, e1, q⟩ := onSlot_ok h
  obtain ⟨v, e2, r1⟩ := ss.sl j d e1
  refine ⟨v, e2, G, σ, M, _, D.xx, ss, q, fun w H1 ⟨y, M1, G1, e3, m1, r2, q1⟩ => ?_, kx⟩
  exact ok G1 M1 H1 d y v w _ _ m1 (r1.up e3) r2 q1 fun z H2 ⟨zd, M2, G2, e4, m2, r3, q2⟩ => kn _ H2 _ M2 G2 (e3.trans e4) ((ss.with (e3.trans e4) m2).set j r3) q2
theorem pip_of {op : Operator} {rc : R2} (h : OpR X (inplaceOp op) rc) : PIp X op rc := fun pins s σ H x y v u Q I r1 r2 q => h pins s σ H x y v u Q I r1 r2 q
@[simp] def bIAdd : A2 := fun x y M Q => match x, y with
  | .int i, .int j => Q (.int (i + j)) M
  | .str i, .str j => i.length + j.length ≤ sizeLine ∧ Q (.str (i ++ j)) M
  | .ref p, y => ∃ xs ys, M p = some (.lst xs) ∧ LstAt M y ys ∧ xs.length + ys.length ≤ sizeLine ∧ Q (.ref p) (mset M p (.lst (xs ++ ys)))
  | _, _ => False
theorem i_add : IpOk X .Add bIAdd := ⟨_, pip_of ((iop_add.or iop_add_str).or iop_ext), fun G M H x y xv yv Q R m rx ry h k => by
  unfold bIAdd at h
  split at h
  · cases rx; cases ry; exact .inl (.inl ⟨_, _, rfl, rfl, k _ _ (.here m (.int _) h)⟩)
  · cases rx; cases ry; exact .inl (.inr ⟨_, _, rfl, rfl, h.1, k _ _ (.here m (.str _) h.2)⟩)
  · obtain ⟨xs, ys, h1, h2, h3, h4⟩ := h
    cases rx
    obtain ⟨ws, t, e⟩ := cellL m h1
    refine lstAt m ry h2 fun b us eb pb tb => ?_
    subst eb
    exact .inr ⟨_, b, ws, us, rfl, rfl, e, pb, by rw [← t.len, ← tb.len]; exact h3, Kv.wr m k h1 (t.app tb) (.ref _) h4⟩
  · exact h.elim⟩
theorem i_sub : IpOk X .Sub (bI0 fun i j => i - j) := ⟨_, pip_of iop_sub, bI0_ok⟩
theorem i_mul : IpOk X .Mult (bI MulOk fun i j => i * j) := ⟨_, pip_of iop_mulO, bI_ok⟩
theorem i_shr : IpOk X .RShift (bI ShrOk fun i j => i / 2 ^ j.toNat) := ⟨_, pip_of iop_shr, bI_ok⟩
theorem i_and : IpOk X .BitAnd (bI0 Builtin.bitAnd) := ⟨_, pip_of iop_and, bI0_ok⟩
theorem i_or : IpOk X .BitOr (bI0 Builtin.bitOr) := ⟨_, pip_of iop_or, bI0_ok⟩
theorem i_xor : IpOk X .BitXor (bI0 Builtin.bitXor) := ⟨_, pip_of iop_xor, bI0_ok⟩

/-! ### fields stored -/
@[simp] def fSet (K : PySem.W.Frag) (f : Str) (x d : D) (M : Mem) (Q : Mem → Prop) : Prop := match x with
  | .ref a => ∃ C fs, M a = some (.ins C fs) ∧ Cls K C ∧ NoAttr K C f ∧ fs.length < 1000 ∧ Q (mset M a (.ins C (putD f d fs)))
  | _ => False
@[simp] def aFldS (K : PySem.W.Frag) (to tv : AE) (f : Str) : ASt := fun D σ M => tv σ M (fun d M1 => to σ M1 (fun x M2 => fSet K f x d M2 fun M3 => D.nx σ M3) D.xx) D.xx
theorem fSet_ok {K : PySem.W.Frag} {G H : Hp} {M : Mem} {f : Str} {x d : D} {xv v : V} {Q : Mem → Prop} {P : Hp → Prop} (m : SM K G M H) (rx : Rp K G x xv) (r : Rp K G d v) (h : fSet K f x d M Q) (k : ∀ M' H', SM K G M' H' → Q M' → P H') :
    ∃ a C dx fs, xv = .ref a ∧ H a = some (.ins C dx fs) ∧ Cls K C ∧ NoAttr K C f ∧ fs.length < 1000 ∧ P (upd H a (.ins C dx (putF f v fs))) := (by exact HA.Wq.get : @HA.Wq (∃ a C dx fs, xv = .ref a ∧ H a = some (.ins C dx fs) ∧ Cls K C ∧ NoAttr K C f ∧ fs.length < 1000 ∧ P (upd H a (.ins C dx (putF f v fs)))) (by
  match x, h with
  | .ref a, h =>
    obtain ⟨C, fs, h1, cl, na, hz, q⟩ := h
    obtain ⟨_, dx, vs, fr, eH⟩ := m.cell a _ h1
    cases rx
    exact ⟨a, C, dx, vs, rfl, eH, cl, na, by rw [← fr.len]; exact hz, k _ _ (m.write (c := .ins C (putD f d fs)) h1 ⟨dx, _, FR.put r fr, upd_same⟩) q⟩))
theorem qs_fld {f : Str} (ha : QE X B W o ta) (hv : QE X B W value tv) (hs : swapsWith value (some (.Attribute o f pos')) pos.line X.env = pure false := by rfl) : QS X B W (.Assign [.Attribute o f pos'] value pos) (aFldS X.K ta tv f) :=
  ps_imp (ps_fld ha hv hs) fun Dc s H ⟨G, σ, M, D, ss, h, kn, kr, kb, kc, kx⟩ =>
    ⟨G, σ, M, _, D.xx, ss, h, fun v H1 ⟨d, M1, G1, e1, m1, r1, q1⟩ => ⟨G1, σ, M1, _, D.xx, ss.with e1 m1, q1, fun xv H2 ⟨x, M2, G2, e2, m2, r2, q2⟩ =>
      fSet_ok (P := fun H3 => Dc.nx s H3) m2 r2 (r1.up e2) q2 fun M3 H3 m3 q3 => kn s H3 σ M3 G2 (e1.trans e2) (ss.with (e1.trans e2) m3) q3, kx⟩, kx⟩
/-- o.f op= e -/
def aFldAug (K : PySem.W.Frag) (to tv : AE) (r : A2) (f : Str) : ASt := fun D σ M => to σ M (fun x M1 => match x with
  | .ref a => ∃ C fs old, M1 a = some (.ins C fs) ∧ Cls K C ∧ NoAttr K C f ∧ fs.lookup f = some old ∧
      tv σ M1 (fun y M3 => r old y M3 fun z M4 => ∃ fs', M4 a = some (.ins C fs') ∧ fs'.length < 1000 ∧ D.nx σ (mset M4 a (.ins C (putD f z fs')))) D.xx
  | _ => False) D.xx
def IfOk (X : Cx) (op : Operator) (r : A2) : Prop := ∃ rc, InOp X op rc ∧ OkR X.K r rc
theorem if_of {op : Operator} {r : A2} (h : IpOk X op r) : IfOk X op r := h
theorem qs_fldaug {f : Str} {op : Operator} {r : A2} (ha : QE X B W o ta) (hv : QE X B W value tv) (ho : IfOk X op r) : QS X B W (.AugAssign (.Attribute o f tpos) op value pos) (aFldAug X.K ta tv r f) := (by exact HA.Wq.get : @HA.Wq (QS X B W (.AugAssign (.Attribute o f tpos) op value pos) (aFldAug X.K ta tv r f)) (by
  obtain ⟨rc, ho, ok⟩ := ho
  refine ps_imp (ps_fldaug ha hv ho) fun Dc s H ⟨G, σ, M, D, ss, h, kn, kr, kb, kc, kx⟩ => ?_
  refine ⟨G, σ, M, _, D.xx, ss, h, fun v H1 ⟨x, M1, G1, e1, m1, r1, q1⟩ => ?_, kx⟩
  match x, q1 with
  | .ref a, q1 =>
    obtain ⟨C, fs, d, h1, cl, na, h2, h3⟩ := q1
    obtain ⟨_, dx, vs, fr, eH⟩ := m1.cell a _ h1
    obtain ⟨w, hw, rw'⟩ := fr.look h2
    cases r1
    refine ⟨a, C, dx, vs, w, rfl, eH, cl, na, hw, G1, σ, M1, _, D.xx, ss.with e1 m1, h3, fun yv H2 ⟨y, M2, G2, e2, m2, r2, q2⟩ => ?_, kx⟩
    refine ok G2 M2 H2 d y w yv _ _ m2 (rw'.up e2) r2 q2 fun zv H3 ⟨z, M3, G3, e3, m3, r3, q3⟩ => ?_
    obtain ⟨fs', h5, hz, q4⟩ := q3
    obtain ⟨_, dx', vs', fr', eH'⟩ := m3.cell a _ h5
    exact ⟨dx', vs', eH', by rw [← fr'.len]; exact hz, kn s _ σ _ G3 (e1.trans (e2.trans e3)) (ss.with (e1.trans (e2.trans e3)) (m3.write (c := .ins C (putD f z fs')) h5 ⟨dx', _, FR.put r3 fr', upd_same⟩)) q4⟩))
end
end HA
/-! A5: what is walked; for, while, comprehensions over trees. -/
namespace HA
open PySem PySem.Spec L2

/-- the iterator J yields the things xs, as long as st holds of the memory -/
structure ItOk (K : PySem.W.Frag) (G : Hp) (xs : List D) (st : Mem → Prop) (J : It) : Prop where
  go : ∀ (i : Nat) G' M H, i < xs.length → Same G G' → SM K G' M H → st M → J.go i H
  stop : ∀ (i : Nat) G' M H, xs.length ≤ i → Same G G' → SM K G' M H → st M → J.stop i H
  yld : ∀ (i : Nat) G' M H x H', i < xs.length → Same G G' → SM K G' M H → st M → J.yld i H x H' → ∃ d G2, xs[i]? = some d ∧ Same G' G2 ∧ SM K G2 M H' ∧ Rp K G2 d x
abbrev AI := AS → Mem → (List D → (Mem → Prop) → Mem → Prop) → AXs → Prop
def LI (K : PySem.W.Frag) (B : Hp) (W : WX) (t : AI) : TI := fun s H R => ∃ G σ M Q E, SS K B G σ M s H ∧ t σ M Q E ∧ (∀ J H' xs st M' G', Same G G' → SM K G' M' H' → ItOk K G' xs st J → Q xs st M' → R J H') ∧ ∀ c d s' H', Wx K B E c d s' H' → W c d s' H'
abbrev QI (X : Cx) (B : Hp) (W : WX) (tg e : Expr) (t : AI) : Prop := PI X tg e (LI X.K B W t)

section
variable {X : Cx} {B : Hp} {W : WX} {a b c e o i tg value : Expr} {es rest : List Expr} {ta tb tc te tv : AE} {tt tu : AT} {tas : AA} {ti : AI} {pos pos' tpos p : Pos} {st : Stmt} {sts ss1 ss2 body : List Stmt} {t u : ASt}
theorem pi_imp {t t' : TI} (h : PI X tg e t) (k : ∀ σ H R, t' σ H R → t σ H R) : PI X tg e t' := ⟨fun pins s σ H R I q => h.run pins s σ H R I (k σ H R q)⟩
theorem get_lt {α : Type} {xs : List α} {i : Nat} (h : i < xs.length) : ∃ x, xs[i]? = some x := ⟨xs[i], by simp [h]⟩
theorem itok_list {K : PySem.W.Frag} {G : Hp} {a : Addr} {xs : List D} {st : Mem → Prop} (h : ∀ G' M H, Same G G' → SM K G' M H → st M → ∃ vs, SqL K H a vs ∧ RpA K G' xs vs) : ItOk K G xs st (Itl K a) where
  go := fun i G' M H hi e m s => by
    obtain ⟨vs, h1, h2⟩ := h G' M H e m s
    obtain ⟨v, hv⟩ := get_lt (xs := vs) (i := i) (by rw [← h2.len]; exact hi)
    exact ⟨vs, v, h1, hv⟩
  stop := fun i G' M H hi e m s => by
    obtain ⟨vs, h1, h2⟩ := h G' M H e m s
    exact ⟨vs, h1, by rw [← h2.len]; exact hi⟩
  yld := fun i G' M H x H' hi e m s y => by
    obtain ⟨vs, h1, h2⟩ := h G' M H e m s
    obtain ⟨rfl, y⟩ := y
    obtain ⟨d, hd, r⟩ := h2.getV (y vs h1)
    exact ⟨d, G', hd, Same.refl _, m, r⟩
theorem itok_tup {K : PySem.W.Frag} {G : Hp} {a : Addr} {xs : List D} {st : Mem → Prop} (h : ∀ G' M H, Same G G' → SM K G' M H → st M → ∃ vs, SqT K H a vs ∧ RpA K G' xs vs) : ItOk K G xs st (Itt K a) where
  go := fun i G' M H hi e m s => by
    obtain ⟨vs, h1, h2⟩ := h G' M H e m s
    obtain ⟨v, hv⟩ := get_lt (xs := vs) (i := i) (by rw [← h2.len]; exact hi)
    exact ⟨vs, v, h1, hv⟩
  stop := fun i G' M H hi e m s => by
    obtain ⟨vs, h1, h2⟩ := h G' M H e m s
    exact ⟨vs, h1, by rw [← h2.len]; exact hi⟩
  yld := fun i G' M H x H' hi e m s y => by
    obtain ⟨vs, h1, h2⟩ := h G' M H e m s
    obtain ⟨rfl, y⟩ := y
    obtain ⟨d, hd, r⟩ := h2.getV (y vs h1)
    exact ⟨d, G', hd, Same.refl _, m, r⟩
/-- a list, a tuple; what is walked must stand still -/
@[simp] def still (x : D) (xs : List D) : Mem → Prop := match x with
  | .ref a => fun M => M a = some (.lst xs)
  | _ => fun _ => True
def aWalkL (te : AE) : AI := fun σ M Q E => te σ M (fun x M1 => ∃ xs, LsAt M1 x xs ∧ Q xs (still x xs) M1) E
theorem qi_list (he : QE X B W e te) : QI X B W tg e (aWalkL te) := pi_imp (pi_list he) fun s H R ⟨G, σ, M, Q, E, ss, h, k, kx⟩ => by
  refine ⟨G, σ, M, _, E, ss, h, fun v H1 ⟨x, M1, G1, e1, m1, r1, xs, h1, q⟩ => ?_, kx⟩
  have ok : ∀ a, v = .ref a → ItOk X.K G1 xs (still x xs) (Itl X.K a) := fun a ea => itok_list fun G' M' H' e' m' s' => by
    have r' := r1.up e'
    match x, h1, s', r' with
    | .lst ys, h1, s', r' => cases h1; cases r' with | lst g t => cases ea; exact ⟨_, .of (m'.same _ _ g), t⟩
    | .frz ys, h1, s', r' => cases h1; cases r' with | frz g t => cases ea; exact ⟨_, m'.same.seq g, t⟩
    | .ref b, h1, s', r' => cases r'; cases ea; obtain ⟨vs, t, eH⟩ := cellL m' s'; exact ⟨vs, .of eH, t⟩
  refine lsAt m1 r1 h1 fun a vs ea p t => ?_
  exact ⟨a, ea, ⟨vs, p⟩, k _ H1 xs _ M1 G1 e1 m1 (ok a ea) q⟩
def aWalkT (te : AE) : AI := fun σ M Q E => te σ M (fun x M1 => match x with
  | .tup xs => Q xs (fun _ => True) M1
  | _ => False) E
theorem qi_tup (he : QE X B W e te) : QI X B W tg e (aWalkT te) := pi_imp (pi_tup he) fun s H R ⟨G, σ, M, Q, E, ss, h, k, kx⟩ => by
  refine ⟨G, σ, M, _, E, ss, h, fun v H1 ⟨x, M1, G1, e1, m1, r1, q⟩ => ?_, kx⟩
  match x, q with
  | .tup xs, q =>
    obtain ⟨a, vs, rfl, p, t⟩ := rp_tup r1
    refine ⟨a, rfl, ⟨vs, same_sqt m1.same p⟩, k _ H1 xs _ M1 G1 e1 m1 (itok_tup fun G' M' H' e' m' s' => ?_) q⟩
    exact ⟨vs, same_sqt m'.same (same_sqt e' p), t.up e'⟩
/-- lists and tuples -/
theorem pi_or {t t' : TI} (h : PI X tg e t) (h' : PI X tg e t') : PI X tg e (fun s H R => t s H R ∨ t' s H R) := ⟨fun pins s σ H R I q => q.elim (h.run pins s σ H R I) (h'.run pins s σ H R I)⟩
/-- lo, lo + 1, .. -/
def rangeD (lo : Int) (n : Nat) : List D := (List.range n).map fun (j : Nat) => D.int (lo + j)
theorem rangeD_len (lo : Int) (n : Nat) : (rangeD lo n).length = n := by simp [rangeD]
theorem rangeD_get {lo : Int} {n i : Nat} (h : i < n) : (rangeD lo n)[i]? = some (.int (lo + i)) := by simp [rangeD, h]
theorem rangeD_some {lo : Int} {n i : Nat} {d : D} (h : (rangeD lo n)[i]? = some d) : i < n ∧ d = .int (lo + i) := (by exact HA.Wq.get : @HA.Wq (i < n ∧ d = .int (lo + i)) (by
  have hi : i < n := by
    have := (List.getElem?_eq_some_iff.mp h).1
    rwa [rangeD_len] at this
  rw [rangeD_get hi] at h
  exact ⟨hi, (Option.some.inj h).symm⟩))
theorem itok_range {K : PySem.W.Frag} {G : Hp} (lo : Int) (n : Nat) : ItOk K G (rangeD lo n) (fun _ => True) (Itr lo n) where
  go := fun i G' M H hi e m s => by rw [rangeD_len] at hi; exact hi
  stop := fun i G' M H hi e m s => by rw [rangeD_len] at hi; exact hi
  yld := fun i G' M H x H' hi e m s y => by
    rw [rangeD_len] at hi
    obtain ⟨rfl, rfl⟩ := y
    exact ⟨_, G', rangeD_get hi, Same.refl _, m, .int _⟩
def RngOk (j : Int) : Prop := -4611686018427387904 ≤ j ∧ j < 4611686018427387904
@[simp] def aRng1 (ta : AA) : AI := fun σ M Q E => ta σ M (fun xs M1 => match xs with
  | [.int j] => RngOk j ∧ Q (rangeD 0 j.toNat) (fun _ => True) M1
  | _ => False) E
theorem rngok {j : Int} (h : RngOk j) : -(2 ^ 62) ≤ j ∧ j < 2 ^ 62 := by
  have e : (2 : Int) ^ 62 = 4611686018427387904 := by decide
  rw [e]; exact h
theorem qi_range1 (hg : Gl X "range") (hm : X.mg "range" = none) (ha : QA X B W [a] tas) (hs : starEach [a] X.env = [(false, eval a X.env)] := by rfl) : QI X B W tg (.Call (.Name "range" p) [a] [] pos) (aRng1 tas) :=
  pi_imp (pi_range1 hg hm ha hs) fun s H R ⟨G, σ, M, Q, E, ss, h, k, kx⟩ => ⟨G, σ, M, _, E, ss, h, fun vs H1 xs M1 G1 e1 m1 r1 q => by
    match xs, q with
    | [.int j], q =>
      obtain ⟨v, rfl, r⟩ := rpa1 r1
      cases r
      have z := rngok q.1
      exact ⟨j, rfl, z.1, z.2, k _ H1 _ _ M1 G1 e1 m1 (itok_range 0 j.toNat) q.2⟩, kx⟩
@[simp] def aRng2 (ta : AA) : AI := fun σ M Q E => ta σ M (fun xs M1 => match xs with
  | [.int l, .int j] => (RngOk l ∧ RngOk j) ∧ Q (rangeD l (j - l).toNat) (fun _ => True) M1
  | _ => False) E
theorem qi_range2 (hg : Gl X "range") (hm : X.mg "range" = none) (ha : QA X B W [a, b] tas) (hs : starEach [a, b] X.env = [(false, eval a X.env), (false, eval b X.env)] := by rfl) (hs2 : starEach [b] X.env = [(false, eval b X.env)] := by rfl) : QI X B W tg (.Call (.Name "range" p) [a, b] [] pos) (aRng2 tas) :=
  pi_imp (pi_range2 hg hm ha hs hs2) fun s H R ⟨G, σ, M, Q, E, ss, h, k, kx⟩ => ⟨G, σ, M, _, E, ss, h, fun vs H1 xs M1 G1 e1 m1 r1 q => by
    match xs, q with
    | [.int l, .int j], q =>
      obtain ⟨v, w, rfl, ra, rb⟩ := rpa2 r1
      cases ra; cases rb
      have z := rngok q.1.1
      have z2 := rngok q.1.2
      exact ⟨l, j, rfl, ⟨z.1, z.2, z2.1, z2.2⟩, k _ H1 _ _ M1 G1 e1 m1 (itok_range l _) q.2⟩, kx⟩
/-- lo, lo + c, .. (n of them) -/
def stepD (lo c : Int) (n : Nat) : List D := (List.range n).map fun (j : Nat) => D.int (lo + j * c)
theorem stepD_len (lo c : Int) (n : Nat) : (stepD lo c n).length = n := by simp [stepD]
theorem stepD_get {lo c : Int} {n i : Nat} (h : i < n) : (stepD lo c n)[i]? = some (.int (lo + i * c)) := by simp [stepD, h]
theorem stepD_some {lo c : Int} {n i : Nat} {d : D} (h : (stepD lo c n)[i]? = some d) : i < n ∧ d = .int (lo + i * c) := (by exact HA.Wq.get : @HA.Wq (i < n ∧ d = .int (lo + i * c)) (by
  have hi : i < n := by
    have := (List.getElem?_eq_some_iff.mp h).1
    rwa [stepD_len] at this
  rw [stepD_get hi] at h
  exact ⟨hi, (Option.some.inj h).symm⟩))
theorem itok_step {K : PySem.W.Frag} {G : Hp} (lo c : Int) (n : Nat) : ItOk K G (stepD lo c n) (fun _ => True) (Itc lo c n) where
  go := fun i G' M H hi e m s => by rw [stepD_len] at hi; exact hi
  stop := fun i G' M H hi e m s => by rw [stepD_len] at hi; exact hi
  yld := fun i G' M H x H' hi e m s y => by
    rw [stepD_len] at hi
    obtain ⟨rfl, rfl⟩ := y
    exact ⟨_, G', stepD_get hi, Same.refl _, m, .int _⟩
@[simp] def aRng3 (ta : AA) : AI := fun σ M Q E => ta σ M (fun xs M1 => match xs with
  | [.int l, .int j, .int c] => ∃ n, RgC l j c n ∧ Q (stepD l c n) (fun _ => True) M1
  | _ => False) E
theorem qi_range3 (hg : Gl X "range") (hm : X.mg "range" = none) (ha : QA X B W [a, b, c] tas) (hs : starEach [a, b, c] X.env = (false, eval a X.env) :: starEach [b, c] X.env := by rfl) (hpl : (backTo pos (starEach [b, c] X.env)).any (·.1) = false := by rfl) : QI X B W tg (.Call (.Name "range" p) [a, b, c] [] pos) (aRng3 tas) :=
  pi_imp (pi_range3 hg hm ha hs hpl) fun s H R ⟨G, σ, M, Q, E, ss, h, k, kx⟩ => ⟨G, σ, M, _, E, ss, h, fun vs H1 xs M1 G1 e1 m1 r1 q => by
    match xs, q with
    | [.int l, .int j, .int c], ⟨n, q1, q2⟩ =>
      obtain ⟨v, w, u, rfl, ra, rb, rc⟩ := rpa3 r1
      cases ra; cases rb; cases rc
      exact ⟨l, j, c, n, rfl, q1, k _ H1 _ _ M1 G1 e1 m1 (itok_step l c n) q2⟩, kx⟩

/-! ### for -/
def aFor (ti : AI) (g : AG) (tb : ASt) : ASt := fun D σ M => ti σ M (fun xs st M1 => ∃ V : Nat → AS → Mem → Prop, V 0 σ M1 ∧
  (∀ i x σ M, xs[i]? = some x → V i σ M → st M ∧ g x σ M (fun σ2 M2 => tb { D with nx := V (i + 1), ct := V (i + 1), bk := D.nx } σ2 M2) D.xx) ∧
  ∀ σ M, V xs.length σ M → st M ∧ D.nx σ M) D.xx
theorem qs_for {g : AG} {vs : List Nat} (hp : PassesOwn (model X.prog X.w) X.A X.env X.xe) (hc : X.calm = true) (hi : QI X B W tg e ti) (hg : QG X B W vs tg g) (hb : QSs X B W body t) (hs : ∀ x, foldedSetIterable e X.env x = pure x := by intro _; rfl) :
    QS X B W (.For tg e body [] pos) (aFor ti g t) := ps_imp (ps_for hp hc hi hg hb hs) fun Dc s H ⟨G, σ, M, D, ss, h, kn, kr, kb, kc, kx⟩ => by
  refine ⟨G, σ, M, _, D.xx, ss, h, fun J H1 xs stl M1 G1 e1 m1 ok q => ?_, kx⟩
  obtain ⟨Vv, v0, turn, fin⟩ := q
  refine ⟨fun i m s H => m = xs.length - i ∧ i ≤ xs.length ∧ ∃ G' σ M, Same G1 G' ∧ SS X.K B G' σ M s H ∧ Vv i σ M, ⟨xs.length, rfl, Nat.zero_le _, G1, σ, M1, Same.refl _, ss.with e1 m1, v0⟩, ?_⟩
  rintro i m s2 H2 ⟨rfl, hi, G2, σ2, M2, e2, ss2, v2⟩
  by_cases hlt : i < xs.length
  · obtain ⟨x, hx⟩ := get_lt hlt
    obtain ⟨s2', q2⟩ := turn i x σ2 M2 hx v2
    refine .inr ⟨ok.go i G2 M2 H2 hlt e2 ss2.mem s2', fun s3 H3 => ∃ G' σ M, SS X.K B G' σ M s3 H3 ∧ Same G1 G' ∧ Vv (i + 1) σ M, fun s3 H3 ⟨G3, σ3, M3, ss3, e3, v3⟩ => ⟨xs.length - (i + 1), by omega, rfl, hlt, G3, σ3, M3, e3, ss3, v3⟩, fun y H3 hy => ?_⟩
    obtain ⟨d, G3, hd, e3, m3, r3⟩ := ok.yld i G2 M2 H2 y H3 hlt e2 ss2.mem s2' hy
    rw [hx] at hd
    cases hd
    have e23 := e2.trans e3
    refine ⟨G3, σ2, M2, x, _, D.xx, ss2.with e3 m3, r3, q2, fun s4 H4 σ4 M4 G4 e4 ss4 _ q4 => ?_, kx⟩
    have e24 := e23.trans e4
    exact ⟨G4, σ4, M4, _, ss4, q4, fun s5 H5 σ5 M5 G5 e5 ss5 v5 => ⟨G5, σ5, M5, ss5, e24.trans e5, v5⟩, fun v H' kv => kr v H' (kv.lift (e1.trans e24)), fun s5 H5 σ5 M5 G5 e5 ss5 v5 => kn s5 H5 σ5 M5 G5 (e1.trans (e24.trans e5)) ss5 v5,
      fun s5 H5 σ5 M5 G5 e5 ss5 v5 => ⟨G5, σ5, M5, ss5, e24.trans e5, v5⟩, kx⟩
  · have : i = xs.length := by omega
    subst this
    obtain ⟨s2', q2⟩ := fin σ2 M2 v2
    exact .inl ⟨ok.stop _ G2 M2 H2 (Nat.le_refl _) e2 ss2.mem s2', kn s2 H2 σ2 M2 G2 (e1.trans e2) ss2 q2⟩
/-! ### while -/
def aWhile (tt : AT) (tb : ASt) : ASt := fun D σ M => ∃ V : Nat → AS → Mem → Prop, (∃ m, V m σ M) ∧ ∀ m σ M, V m σ M →
  tt σ M (fun b M1 => (b = true → tb { D with nx := fun σ' M' => ∃ m', m' < m ∧ V m' σ' M', ct := fun σ' M' => ∃ m', m' < m ∧ V m' σ' M', bk := D.nx } σ M1) ∧ (b = false → D.nx σ M1)) D.xx
theorem qs_while (hp : PassesOwn (model X.prog X.w) X.A X.env X.xe) (hc : QT X B W c tt) (hb : QSs X B W body t) : QS X B W (.While c body [] pos) (aWhile tt t) := ps_imp (ps_while hp hc hb) fun Dc s H ⟨G, σ, M, D, ss, h, kn, kr, kb, kc, kx⟩ => by
  obtain ⟨Vv, ⟨m0, v0⟩, turn⟩ := h
  refine ⟨fun m s H => ∃ G' σ M, Same G G' ∧ SS X.K B G' σ M s H ∧ Vv m σ M, ⟨m0, G, σ, M, Same.refl G, ss, v0⟩, ?_⟩
  rintro m s2 H2 ⟨G2, σ2, M2, e2, ss2, v2⟩
  refine ⟨G2, σ2, M2, _, D.xx, ss2, turn m σ2 M2 v2, fun b H3 M3 G3 e3 m3 q => ?_, kx⟩
  have e23 := e2.trans e3
  cases b with
  | true =>
    refine iteT ⟨fun s5 H5 => ∃ G' σ M m', m' < m ∧ Same G G' ∧ SS X.K B G' σ M s5 H5 ∧ Vv m' σ M, fun s5 H5 ⟨G', σ, M, m', hm, e, ss, v⟩ => ⟨m', hm, G', σ, M, e, ss, v⟩, ?_⟩
    exact ⟨G3, σ2, M3, _, ss2.with e3 m3, q.1 rfl, fun s5 H5 σ5 M5 G5 e5 ss5 ⟨m', hm, v5⟩ => ⟨G5, σ5, M5, m', hm, e23.trans e5, ss5, v5⟩, fun v H' kv => kr v H' (kv.lift e23), fun s5 H5 σ5 M5 G5 e5 ss5 v5 => kn s5 H5 σ5 M5 G5 (e23.trans e5) ss5 v5,
      fun s5 H5 σ5 M5 G5 e5 ss5 ⟨m', hm, v5⟩ => ⟨G5, σ5, M5, m', hm, e23.trans e5, ss5, v5⟩, kx⟩
  | false => exact iteF (kn s2 H3 σ2 M3 G3 e23 (ss2.with e3 m3) (q.2 rfl))

/-! ### comprehensions -/
@[simp] def wipeA (σ : AS) : List Nat → AS
  | [] => σ
  | i :: r => (wipeA σ r).set i none
theorem wipe_get {s : L2.St} {j : Nat} : ∀ {vs : List Nat}, j ∉ vs → (wipe s vs)[j]? = s[j]? := wipe_out
theorem wipeA_len (σ : AS) : ∀ vs : List Nat, (wipeA σ vs).length = σ.length
  | [] => rfl
  | i :: r => by simp [wipeA, wipeA_len σ r]
theorem wipeA_some {σ : AS} {j : Nat} {d : D} : ∀ {vs : List Nat}, (wipeA σ vs)[j]? = some (some d) → σ[j]? = some (some d) ∧ j ∉ vs
  | [], h => ⟨h, by simp⟩
  | i :: r, h => by
    by_cases e : i = j
    · subst e
      unfold wipeA at h
      by_cases hl : i < (wipeA σ r).length
      · rw [List.getElem?_set_self hl] at h; cases h
      · rw [List.getElem?_eq_none (by simp; omega)] at h; cases h
    · unfold wipeA at h
      rw [List.getElem?_set_ne e] at h
      obtain ⟨h1, h2⟩ := wipeA_some (vs := r) h
      exact ⟨h1, by simp [h2, Ne.symm e]⟩
theorem SS.wipe {K : PySem.W.Frag} {G : Hp} {σ : AS} {M : Mem} {s : L2.St} {H : Hp} (ss : SS K B G σ M s H) (vs : List Nat) : SS K B G (wipeA σ vs) M (L2.wipe s vs) H :=
  ⟨ss.base, ss.mem, by rw [wipeA_len, wipe_length]; exact ss.len, fun j d h => by
    obtain ⟨h1, h2⟩ := wipeA_some h
    obtain ⟨v, h3, r⟩ := ss.sl j d h1
    exact ⟨v, by rw [wipe_get h2]; exact h3, r⟩⟩
theorem wipe_cong {s s' : L2.St} : ∀ {vs : List Nat}, s'.length = s.length → (∀ j, j ∉ vs → s'[j]? = s[j]?) → L2.wipe s' vs = L2.wipe s vs := fun {vs} hl h => by
  apply List.ext_getElem?
  intro j
  by_cases hj : j ∈ vs
  · have z : ∀ {s : L2.St}, ∀ {ws : List Nat}, j ∈ ws → (L2.wipe s ws)[j]? = if j < s.length then some none else none := by
      intro s ws
      induction ws with
      | nil => intro h; cases h
      | cons i r ih =>
        intro h
        show ((L2.wipe s r).set i none)[j]? = _
        by_cases e : i = j
        · subst e
          rw [List.getElem?_set]
          simp [wipe_length]
        · rw [List.getElem?_set_ne e]
          exact ih ((List.mem_cons.mp h).resolve_left (Ne.symm e))
    rw [z hj, z hj, hl]
  · rw [wipe_get hj, wipe_get hj, h j hj]
/-- no exception leaves from within -/
abbrev W0 : WX := fun _ _ _ _ => False
abbrev EF : AXs := fun _ _ _ _ => False
abbrev QTs (X : Cx) (B : Hp) (W : WX) (es : List Expr) (t : AT) : Prop := PTs X es (LT X.K B W t)
@[simp] def aYes : AT := fun _ M Q _ => Q true M
theorem pts_imp {es : List Expr} {t t' : TT} (h : PTs X es t) (k : ∀ σ H Q, t' σ H Q → t σ H Q) : PTs X es t' := ⟨fun pins s σ H Q I q => h.run pins s σ H Q I (k σ H Q q)⟩
theorem qts_nil : QTs X B W [] aYes := pts_imp pts_nil fun s H R ⟨G, σ, M, Q, E, ss, h, k, kx⟩ => k true H M G (Same.refl G) ss.mem h
theorem qts_one (h : QT X B W c tt) : QTs X B W [c] tt := pts_one h
def aLc (ti : AI) (g : AG) (tt : AT) (te : AE) (vs : List Nat) : AE := fun σ M Q E => ti σ M (fun xs st M1 => ∀ p, M1 p = none → ∃ V : Nat → Mem → Prop, V 0 (mset M1 p (.lst [])) ∧
  (∀ i x M, xs[i]? = some x → V i M → st M ∧ g x (wipeA σ vs) M (fun σ2 M2 => tt σ2 M2 (fun b M3 =>
    (b = true → te σ2 M3 (fun y M4 => ∃ acc, M4 p = some (.lst acc) ∧ acc.length < sizeLine ∧ V (i + 1) (mset M4 p (.lst (acc ++ [y])))) EF) ∧ (b = false → V (i + 1) M3)) EF) EF) ∧
  ∀ M, V xs.length M → st M ∧ Q (.ref p) M) E
/-- what a comprehension's block may do: the context of its inside -/
abbrev Blk (X : Cx) (scope : Scope) (P : Cx → Prop) : Prop := ∀ (s : Shared) (H : Hp) (C : Addr) (cl : List (Str × Addr)) (fp : List Addr), P (X.blk s H scope (compEnvC scope cl C X.env) fp)
theorem lift_lc {K : PySem.W.Frag} {g : AG} {vs ws : List Nat} (hv : ∀ j, j ∈ ws → j ∈ vs) {s : L2.St} {H : Hp} {R : VK} (h : LE K B W (aLc ti g tt te vs) s H R) : tLc (LI K B W ti) (LG K B W0 ws g) (LT K B W0 tt) (LE K B W0 te) vs s H R := (by exact HA.Wq.get : @HA.Wq (tLc (LI K B W ti) (LG K B W0 ws g) (LT K B W0 tt) (LE K B W0 te) vs s H R) (by
  obtain ⟨G, σ, M, Q, E, ss, h, k, kx⟩ := h
  refine ⟨G, σ, M, _, E, ss, h, fun J H1 xs stl M1 G1 e1 m1 ok q p hp => ?_, kx⟩
  obtain ⟨Vv, v0, turn, fin⟩ := q p (m1.free hp).2
  have k0 : ∀ c d s' H', Wx K B EF c d s' H' → W0 c d s' H' := fun c d s' H' ⟨_, _, _, _, _, _, _, _, _, _, _, _, z⟩ => z
  refine ⟨fun i m H => m = xs.length - i ∧ i ≤ xs.length ∧ ∃ G' M, Same G1 G' ∧ SM K G' M H ∧ Vv i M, ⟨xs.length, rfl, Nat.zero_le _, G1, _, Same.refl _, m1.new (c := .lst []) hp ⟨[], .nil, upd_same⟩, v0⟩, ?_⟩
  rintro i m H2 ⟨rfl, hi, G2, M2, e2, m2, v2⟩
  by_cases hlt : i < xs.length
  · obtain ⟨x, hx⟩ := get_lt hlt
    obtain ⟨s2', q2⟩ := turn i x M2 hx v2
    refine .inr ⟨ok.go i G2 M2 H2 hlt e2 m2 s2', fun H3 => ∃ G' M, Same G1 G' ∧ SM K G' M H3 ∧ Vv (i + 1) M, fun H3 ⟨G3, M3, e3, m3, v3⟩ => ⟨xs.length - (i + 1), by omega, rfl, hlt, G3, M3, e3, m3, v3⟩, fun y H3 hy => ?_⟩
    obtain ⟨d, G3, hd, e3, m3, r3⟩ := ok.yld i G2 M2 H2 y H3 hlt e2 m2 s2' hy
    rw [hx] at hd
    cases hd
    have e13 := e2.trans e3
    refine ⟨G3, wipeA σ vs, M2, x, _, EF, (ss.with (e1.trans e13) m3).wipe vs, r3, q2, fun s4 H4 σ4 M4 G4 e4 ss4 kp q4 => ⟨?_, G4, σ4, M4, _, EF, ss4, q4, fun b H5 M5 G5 e5 m5 q5 => ?_, k0⟩, k0⟩
    · have w2 : L2.wipe (L2.wipe s vs) vs = L2.wipe s vs := wipe_cong (wipe_length _ _) fun j hj => wipe_get hj
      rw [← w2]
      refine wipe_cong kp.1 fun j hj => kp.2 j fun z => hj (hv j z)
    · have e45 := e4.trans e5
      cases b with
      | true =>
        refine iteT ⟨G5, σ4, M5, _, EF, ss4.with e5 m5, q5.1 rfl, fun yv H6 ⟨yd, M6, G6, e6, m6, r6, acc, h6, hz, v6⟩ => ?_, k0⟩
        obtain ⟨ws, t, eH⟩ := cellL m6 h6
        exact ⟨ws, eH, by rw [← t.len]; exact hz, G6, _, e13.trans (e45.trans e6), m6.write (c := .lst (acc ++ [yd])) h6 ⟨_, t.app (.cons r6 .nil), upd_same⟩, v6⟩
      | false => exact iteF ⟨G5, M5, e13.trans e45, m5, q5.2 rfl⟩
  · have : i = xs.length := by omega
    subst this
    obtain ⟨s2', q2⟩ := fin M2 v2
    exact .inl ⟨ok.stop _ G2 M2 H2 (Nat.le_refl _) e2 m2 s2', k _ _ ⟨.ref p, M2, G2, e1.trans e2, m2, .ref p, q2⟩⟩))
theorem qe_lc {elt iter : Expr} {ifs : List Expr} {scope : Scope} {own : List (Str × Nat)} {ws : List Nat} {g : AG} (hc : X.calm = true) (hN : X.N.Nodup) (hi : QI X B W tg iter ti) (ok : BlkOk X.N X.env.scope scope own) (hv : ∀ j, j ∈ ws → j ∈ own.map (·.2))
    (hg : Blk X scope fun Y => QG Y B W0 ws tg g) (ht : Blk X scope fun Y => QTs Y B W0 ifs tt) (he : Blk X scope fun Y => QE Y B W0 elt te) (hs : ∀ x, foldedSetIterable iter X.env x = pure x := by intro _; rfl) :
    QE X B W (.ListComp elt [⟨tg, iter, ifs, 0⟩] scope pos) (aLc ti g tt te (own.map (·.2))) :=
  pe_imp (pe_lc hc hN hi ok hg ht he hs) fun s H R h => lift_lc hv h
theorem qs_setLc {elt iter : Expr} {ifs : List Expr} {scope : Scope} {own : List (Str × Nat)} {ws : List Nat} {g : AG} {y : Str} {py spos : Pos} (j : Nat) (hc : X.calm = true) (hN : X.N.Nodup) (hi : QI X B W tg iter ti) (ok : BlkOk X.N X.env.scope scope own) (hv : ∀ j, j ∈ ws → j ∈ own.map (·.2))
    (hg : Blk X scope fun Y => QG Y B W0 ws tg g) (ht : Blk X scope fun Y => QTs Y B W0 ifs tt) (he : Blk X scope fun Y => QE Y B W0 elt te) (hy : X.N[j]? = some y := by rfl) (hyl : X.env.scope.names.lookup y = some .local := by rfl)
    (hsw : swapsWith (.ListComp elt [⟨tg, iter, ifs, 0⟩] scope pos) (some (.Name y py)) spos.line X.env = pure true := by exact sw_true rfl rfl rfl (by decide +kernel)) (hs : ∀ x, foldedSetIterable iter X.env x = pure x := by intro _; rfl) :
    QS X B W (.Assign [.Name y py] (.ListComp elt [⟨tg, iter, ifs, 0⟩] scope pos) spos) (aAsg (aLc ti g tt te (own.map (·.2))) (agName j)) :=
  ps_imp (ps_setLc hc hN hy hyl hsw hi ok hg ht he hs) fun Dc s H ⟨G, σ, M, D, ss, h, kn, kr, kb, kc, kx⟩ =>
    lift_lc hv ⟨G, σ, M, _, D.xx, ss, h, fun v H1 ⟨x, M1, G1, e1, m1, r1, q1⟩ => kn _ H1 _ M1 G1 e1 ((ss.with e1 m1).set j r1) q1, kx⟩
end
end HA
/-! A6: what a def promises over trees; calls, methods, new instances; the end. -/
namespace HA
open PySem PySem.Spec L2

/-- things in, the memory, the wanted value, the wanted exception -/
abbrev ASp := List D → Mem → DK → AX → Prop
structure FA (P : Program) (w : World) (K : PySem.W.Frag) (mg : Str → Option Value) (base : Heap) (k : Nat) (f : Addr) (fd : FuncData) (ps : List Str) (sp : ASp) : Prop where
  len : ∀ ds M Q E, sp ds M Q E → ds.length = ps.length
  run : ∀ (A : Around) (outer : List Env) (s : Shared) (H : Hp) (args : Args) (us : List Value) (vs : List V) (ds : List D) (G : Hp) (M : Mem) (Q : DK) (E : AX), Room k A → A.guards = some [] → Env0 P w K mg base A outer s H → BindsTo s fd args (ps.zip us) → Vals vs us → SM K G M H → RpA K G ds vs → sp ds M Q E →
    codeAny (model P w) A (.call (.ref f) args) (CR (L2.CX P w) outer P w H s (Kv K G Q) (Kx K G E)) s
theorem FA.mono {P : Program} {w : World} {K : PySem.W.Frag} {mg : Str → Option Value} {base : Heap} {j k : Nat} {f : Addr} {fd : FuncData} {ps : List Str} {sp : ASp} (F : FA P w K mg base j f fd ps sp) (h : j ≤ k) : FA P w K mg base k f fd ps sp :=
  ⟨F.len, fun A outer s H args us vs ds G M Q E hr => F.run A outer s H args us vs ds G M Q E (hr.mono h)⟩
theorem FA.imp {P : Program} {w : World} {K : PySem.W.Frag} {mg : Str → Option Value} {base : Heap} {k : Nat} {f : Addr} {fd : FuncData} {ps : List Str} {sp sp' : ASp} (F : FA P w K mg base k f fd ps sp) (h : ∀ ds M Q E, sp' ds M Q E → sp ds M Q E) : FA P w K mg base k f fd ps sp' :=
  ⟨fun ds M Q E q => F.len ds M Q E (h _ _ _ _ q), fun A outer s H args us vs ds G M Q E hr hg he hb hv m r q => F.run A outer s H args us vs ds G M Q E hr hg he hb hv m r (h _ _ _ _ q)⟩

/-- things out of a row, by places -/
def pick {α : Type} (pm : List Nat) (zs : List α) : List α := pm.filterMap (zs[·]?)
theorem pick_rp {K : PySem.W.Frag} {G : Hp} {ds : List D} {vs : List V} (r : RpA K G ds vs) : ∀ pm : List Nat, RpA K G (pick pm ds) (pick pm vs)
  | [] => .nil
  | i :: pm => by
    have ih := pick_rp r pm
    unfold pick at ih ⊢
    simp only [List.filterMap_cons]
    cases e : ds[i]? with
    | none =>
      have e2 : vs[i]? = none := by rw [List.getElem?_eq_none_iff] at e ⊢; rw [← r.len]; exact e
      rw [e2]; exact ih
    | some d =>
      obtain ⟨v, h1, h2⟩ := r.get e
      rw [h1]; exact .cons h2 ih
theorem pick_vals {vs : List V} {us : List Value} (r : Vals vs us) : ∀ pm : List Nat, Vals (pick pm vs) (pick pm us)
  | [] => .nil
  | i :: pm => by
    have ih := pick_vals r pm
    unfold pick at ih ⊢
    simp only [List.filterMap_cons]
    cases e : vs[i]? with
    | none =>
      have e2 := r.none_of e
      rw [e2]; exact ih
    | some d =>
      obtain ⟨v, h1, h2⟩ := r.get e
      rw [h1]; exact .cons h2 ih

section
variable {X : Cx} {B : Hp} {W : WX} {k n : Nat} {f C : Addr} {fd : FuncData} {ps ks : List Str} {sp : ASp} {pm : List Nat} {x m : Str} {p pos apos : Pos} {e o : Expr} {es : List Expr} {kws : List Keyword} {ta : AE} {tas tks : AA}
/-- how a call with n things and the keywords ks binds -/
def Bnd (fd : FuncData) (ps : List Str) (n : Nat) (ks : List Str) (pm : List Nat) : Prop := ∀ us ws : List Value, us.length = n → ws.length = ks.length → bindArgs fd ⟨us, ks.zip ws⟩ = pure (ps.zip (pick pm (us ++ ws)))
theorem Wx.of {K : PySem.W.Frag} {G : Hp} {σ : AS} {M : Mem} {s : L2.St} {H : Hp} {E : AXs} (ss : SS K B G σ M s H) {cls : Value} {d : Option Addr} {H' : Hp} (h : Kx K G (E σ) cls d H') : Wx K B E cls d s H' := by
  obtain ⟨C, fs, a, vs, M', G', e1, e2, e3, m, h1, h2, q⟩ := h
  exact ⟨C, fs, a, vs, σ, M', G', e1, e2, ss.with e3 m, h1, h2, q⟩
theorem run_fa {pins : List (Addr × Obj)} {s : Shared} {st : L2.St} {H : Hp} {us ws : List Value} {vs zs : List V} {G : Hp} {σ : AS} {M : Mem} {Q : DK} {E : AXs} {ds es' : List D} {R : VK} (F : FA X.prog X.w X.K X.mg X.base k f fd ps sp) (hr : Room k X.A) (hg : X.A.guards = some []) (tk : Takes X W)
    (hb : Bnd fd ps n ks pm) (I : Inv X pins st H s) (ss : SS X.K B G σ M st H) (r : Vals vs us) (rz : Vals zs ws) (q1 : RpA X.K G ds vs) (q2 : RpA X.K G es' zs) (l1 : ds.length = n) (l2 : es'.length = ks.length) (h : sp (pick pm (ds ++ es')) M Q (E σ))
    (kq : ∀ v H', Kv X.K G Q v H' → R v H') (kx : ∀ c d s' H', Wx X.K B E c d s' H' → W c d s' H') : wpAny (model X.prog X.w) X.A (call (.ref f) us (ks.zip ws)) (EP X pins st R) X.xe s := (by exact HA.Wq.get : @HA.Wq (wpAny (model X.prog X.w) X.A (call (.ref f) us (ks.zip ws)) (EP X pins st R) X.xe s) (by
  have b : BindsTo s fd ⟨us, ks.zip ws⟩ (ps.zip (pick pm (us ++ ws))) := .of_eq (hb us ws (by rw [← r.length, ← q1.len]; exact l1) (by rw [← rz.length, ← q2.len]; exact l2))
  refine wpAny_call (codeAny_mono (F.run X.A X.stack s H _ _ (pick pm (vs ++ zs)) (pick pm (ds ++ es')) G M Q (E σ) hr hg I.env0 b (pick_vals (r.append rz) pm) ss.mem (pick_rp (q1.app q2) pm) h) fun r s' hq => ?_)
  cases r with
  | error z => exact tk z s' (XE.of_call I (fun cls d H' hk => kx _ _ _ _ (Wx.of ss hk)) hq)
  | ok fl =>
    cases fl with
    | ret u =>
      obtain ⟨v, H', I', rv, q⟩ := I.after hq
      exact ⟨v, H', I', rv, kq v H' q⟩
    | next => exact False.elim hq
    | brk => exact False.elim hq
    | cont => exact False.elim hq))

/-! ### keywords -/
def LK := LA
abbrev QK (X : Cx) (B : Hp) (W : WX) (kws : List Keyword) (t : AA) : Prop := PK X kws (LA X.K B W t)
theorem pk_imp {t t' : TA} (h : PK X kws t) (k : ∀ σ H Q, t' σ H Q → t σ H Q) : PK X kws t' := ⟨fun ps pins s σ H Q I q => h.run ps pins s σ H Q I (k σ H Q q)⟩
theorem qk_nil : QK X B W [] aNil := pk_imp pk_nil fun s H R ⟨G, σ, M, Q, E, ss, h, k, kx⟩ => k [] H [] M G (Same.refl G) ss.mem .nil h
theorem qk_cons {nm : Option Str} {kpos : Pos} (ha : QE X B W e ta) (hr : QK X B W kws tas) : QK X B W (⟨nm, e, kpos⟩ :: kws) (aCons ta tas) :=
  pk_imp (pk_cons ha hr) fun s H R ⟨G, σ, M, Q, E, ss, h, k, kx⟩ => ⟨G, σ, M, _, E, ss, h, fun v H1 ⟨x, M1, G1, e, m, r, q⟩ =>
    ⟨G1, σ, M1, _, E, ss.with e m, q, fun vs H2 ds M2 G2 e2 m2 r2 q2 => k (v :: vs) H2 (x :: ds) M2 G2 (e.trans e2) m2 (.cons (r.up e2) r2) q2, kx⟩, kx⟩

/-! ### f(e, .., k = v, ..) -/
@[simp] def aCall (sp : ASp) (n j : Nat) (pm : List Nat) (ta tk : AA) : AE := fun σ M Q E => ta σ M (fun us M1 => tk σ M1 (fun ws M2 => us.length = n ∧ ws.length = j ∧ sp (pick pm (us ++ ws)) M2 Q (E σ)) E) E
/-- a def of the module, as its callers see it -/
structure Cal (P : Program) (w : World) (K : PySem.W.Frag) (mg : Str → Option Value) (base : Heap) (k : Nat) (x : Str) (st : Stmt) (ps : List Str) (sp : ASp) : Prop where
  ex : ∃ f fd, Fun K x x st f fd ∧ mg x = some (.ref f) ∧ FA P w K mg base k f fd ps sp
/-- the binding, for any object of the def -/
def Bds (x qual : Str) (st : Stmt) (ps : List Str) (n : Nat) (ks : List Str) (pm : List Nat) : Prop := ∀ (kV doc pmv : Value) (an : Option Addr) (cdv ct : Value), Bnd (PySem.W.fnOf x qual (defArgs st) (defBody st) (defScope st) .none kV doc pmv an cdv ct) ps n ks pm
theorem Bds.of {qual : Str} {st : Stmt} (b : Bds x qual st ps n ks pm) {K : PySem.W.Frag} (F : Fun K x qual st f fd) : Bnd fd ps n ks pm := by
  obtain ⟨oc, od, kV, doc, pm', an, cdv, ct, osl, rfl, _, _⟩ := F.ex
  exact b _ _ _ _ _ _
theorem qe_call {st : Stmt} {j : Nat} (c : Cal X.prog X.w X.K X.mg X.base k x st ps sp) (hr : Room k X.A) (hg : X.A.guards = some []) (tk : Takes X W) (b : Bds x x st ps n ks pm) (ha : QA X B W (e :: es) tas) (hk : QK X B W kws tks) (hgl : Gl X x := by rfl) (hj : ks.length = j := by rfl)
    (hks : (backToKw pos (keywordEach kws X.env)).filterMap (·.1) = ks := by rfl) (hall : (backToKw pos (keywordEach kws X.env)).all (·.1.isSome) = true := by rfl)
    (hdb : (x == ("__debug__" : Str)) = false := by decide) (he : starEach (e :: es) X.env = (false, eval e X.env) :: starEach es X.env := by rfl)
    (hpl : ((backTo pos (starEach (e :: es) X.env)).any (·.1) || (backToKw pos (keywordEach kws X.env)).any (·.1.isNone)) = false := by rfl) : QE X B W (.Call (.Name x p) (e :: es) kws pos) (aCall sp n j pm tas tks) := by
  obtain ⟨f, fd, hF, hm, F⟩ := c.ex
  have bn := b.of hF
  subst hj
  refine ⟨fun pins s st' H R I ⟨G, σ, M, Q, E, ss, h, kq, kx⟩ => ?_⟩
  refine wpAny_Call_Name_kw (ld_glob I hgl hm ?_ hdb)
  refine PySem.W.callWith_KW (h₀ := X.base) I.ok.mod.kin hF.kp hall (thn (ha.run pos pins s st' H (fun vs H1 => ∃ ds M1 G1, Same G G1 ∧ SM X.K G1 M1 H1 ∧ RpA X.K G1 ds vs ∧ _) I ⟨G, σ, M, _, E, ss, h, fun vs H1 ds M1 G1 e1 m1 r1 q1 => ⟨ds, M1, G1, e1, m1, r1, q1⟩, kx⟩) fun us s1 ⟨vs, H1, I1, r, ds, M1, G1, e1, m1, r1, q1⟩ => ?_) hpl he
  refine thn (hk.run pos pins s1 st' H1 (fun vs H2 => ∃ es' M2 G2, Same G1 G2 ∧ SM X.K G2 M2 H2 ∧ RpA X.K G2 es' vs ∧ _) I1 ⟨G1, σ, M1, _, E, ss.with e1 m1, q1, fun vs H2 ds M2 G2 e2 m2 r2 q2 => ⟨ds, M2, G2, e2, m2, r2, q2⟩, kx⟩) fun ws s2 ⟨zs, H2, I2, rz, es', M2, G2, e2, m2, r2, l1, l2, q2⟩ => ⟨I2.kIn, ?_⟩
  rw [hks]
  exact run_fa F hr hg tk bn I2 (ss.with (e1.trans e2) m2) r rz (r1.up e2) r2 l1 l2 q2 (fun v H' kv => kq v H' (kv.lift (e1.trans e2))) kx
/-- f(k = v, ..), f() -/
theorem qe_call0 {st : Stmt} {j : Nat} (c : Cal X.prog X.w X.K X.mg X.base k x st ps sp) (hr : Room k X.A) (hg : X.A.guards = some []) (tk : Takes X W) (b : Bds x x st ps 0 ks pm) (hk : QK X B W kws tks) (hgl : Gl X x := by rfl) (hj : ks.length = j := by rfl)
    (hks : (backToKw pos (keywordEach kws X.env)).filterMap (·.1) = ks := by rfl) (hall : (backToKw pos (keywordEach kws X.env)).all (·.1.isSome) = true := by rfl)
    (hdb : (x == ("__debug__" : Str)) = false := by decide)
    (hpl : ((backTo pos (starEach [] X.env)).any (·.1) || (backToKw pos (keywordEach kws X.env)).any (·.1.isNone)) = false := by rfl) : QE X B W (.Call (.Name x p) [] kws pos) (aCall sp 0 j pm aNil tks) := by
  obtain ⟨f, fd, hF, hm, F⟩ := c.ex
  have bn := b.of hF
  subst hj
  refine ⟨fun pins s st' H R I ⟨G, σ, M, Q, E, ss, h, kq, kx⟩ => ?_⟩
  refine wpAny_Call_Name_kw (ld_glob I hgl hm ?_ hdb)
  refine PySem.W.callWith_KW0 (h₀ := X.base) I.ok.mod.kin hF.kp hall ?_ hpl
  refine thn (hk.run pos pins s st' H (fun vs H2 => ∃ es' M2 G2, Same G G2 ∧ SM X.K G2 M2 H2 ∧ RpA X.K G2 es' vs ∧ _) I ⟨G, σ, M, _, E, ss, h, fun vs H2 ds M2 G2 e2 m2 r2 q2 => ⟨ds, M2, G2, e2, m2, r2, q2⟩, kx⟩) fun ws s2 ⟨zs, H2, I2, rz, es', M2, G2, e2, m2, r2, l1, l2, q2⟩ => ⟨I2.kIn, ?_⟩
  rw [hks]
  exact run_fa (us := []) (vs := []) (ds := []) F hr hg tk bn I2 (ss.with e2 m2) .nil rz .nil r2 l1 l2 q2 (fun v H' kv => kq v H' (kv.lift e2)) kx
end

/-! ### the rule for a def -/
@[simp] def startA (N : List Str) (ds : List D) : AS := ds.map some ++ List.replicate (N.length - ds.length) none
abbrev BX (P : Program) (w : World) (K : PySem.W.Frag) (mg : Str → Option Value) (base : Heap) (N : List Str) (qual : Str) (st : Stmt) (f : Addr) (cdv : Value) (A : Around) (outer : List Env) (s : Shared) (H : Hp) (E : XK) : Cx := cxOf (L2.CX P w) P w K mg base N qual (defScope st) f cdv A outer s H E
section
variable {P : Program} {w : World} {K : PySem.W.Frag} {mg : Str → Option Value} {base : Heap} {x qual : Str} {st : Stmt} {f : Addr} {fd : FuncData} {N ps : List Str} {k : Nat} {sp : ASp} {t : ASt}
theorem fa_of (F : Fun K x qual st f fd) (S : FnScope N ps (defScope st)) (len : ∀ ds M Q E, sp ds M Q E → ds.length = ps.length)
    (hb : ∀ cdv A outer s H E B W, Room k (BX P w K mg base N qual st f cdv A outer s H E).A → (BX P w K mg base N qual st f cdv A outer s H E).A.guards = some [] → Takes (BX P w K mg base N qual st f cdv A outer s H E) W → PassesOwn (model P w) (BX P w K mg base N qual st f cdv A outer s H E).A (BX P w K mg base N qual st f cdv A outer s H E).env (BX P w K mg base N qual st f cdv A outer s H E).xe → QSs (BX P w K mg base N qual st f cdv A outer s H E) B W (defBody st) t)
    (h : ∀ ds M Q E, sp ds M Q E → t { nx := fun _ M' => Q .non M', rt := Q, xx := fun _ => E } (startA N ds) M) : FA P w K mg base (k + 1) f fd ps sp := by
  obtain ⟨oc, od, kV, doc, pm, an, cdv, ct, osl, rfl, lk, hcd⟩ := F.ex
  refine ⟨len, fun A outer s H args us vs ds G M Q E hr hg e0 hbd r m rp hs => ?_⟩
  have hl : vs.length = ps.length := by rw [← rp.len]; exact len _ _ _ _ hs
  have inK : K.In s.heap := e0.mod.kin.keeps fun b o z => (e0.bs b o z).1
  have nol : s.heap.NoLimit := e0.mod.nolimit.keeps fun b o z => (e0.bs b o z).1
  have kinds : ∀ y ∈ ps.zip us, (defScope st).names.lookup y.1 = some .local ∨ ((defScope st).names.lookup y.1 = some .cell ∧ ((cellsFrom (s.heap.objs.size + 1) (defScope st).names []).lookup y.1).isSome = true) := by
    rintro ⟨y, v⟩ hy
    exact (S.par y (List.of_mem_zip hy).1).imp id fun z => ⟨z, PySem.W.cellsFrom_some _ _ _ (.inl z)⟩
  refine codeAny_call_function hr.depth (inK _ _ lk) rfl S.co S.gen rfl (PySem.W.codeRec_of inK hcd) (hbd _ _ _ _ (wpAny_newFunctionEnv_cells S.kind kinds fun env ee s1 xx => ?_))
  subst ee
  refine ⟨nol.keeps xx.toInCall.keep, codeAny_func ?_⟩
  have I := inv_start (CX := L2.CX P w) (P := P) (w := w) (K := K) (mg := mg) (base := base) (cd := cdv) (E := Kx K G E) S hr.hd e0 hl r xx
  have tk := takes_of (X := BX P w K mg base N qual st f cdv A outer s H (Kx K G E)) (E := Kx K G E) rfl rfl rfl rfl
  have qb := hb cdv A outer s H (Kx K G E) G _ (hr.deeper _) hg tk (passes_of rfl)
  have e0l : (startA N ds).length = (L2.start N vs).length := by simp [startA, L2.start, rp.len]
  have ss : SS K G G (startA N ds) M (L2.start N vs) H := ⟨Same.refl G, m, e0l, fun i d hd => by
    unfold startA at hd
    unfold L2.start
    by_cases hi : i < ds.length
    · rw [List.getElem?_append_left (by simpa using hi), List.getElem?_map] at hd
      cases z : ds[i]? with
      | none => rw [z] at hd; cases hd
      | some y =>
        rw [z] at hd
        cases hd
        obtain ⟨v, h1, h2⟩ := rp.get z
        exact ⟨v, by rw [List.getElem?_append_left (by simp; rw [← rp.len]; exact hi), List.getElem?_map, h1]; rfl, h2⟩
    · rw [List.getElem?_append_right (by simpa using hi), List.getElem?_replicate] at hd
      split at hd <;> cases hd⟩
  have fin : ∀ {σ' : L2.St} {H' : Hp} {s' : Shared} {v : V} {u : Value}, Inv (BX P w K mg base N qual st f cdv A outer s H (Kx K G E)) [] σ' H' s' → RelV v u → Kv K G Q v H' → CE outer P w H s (Kv K G Q) u s' := fun J rv q => ⟨_, _, J.os, J.bare, J.base, J.hok, rv, q⟩
  refine wpAny_mono (qb.run [] s1 (L2.start N vs) H { nx := fun _ H' => Kv K G Q .non H', rt := Kv K G Q } I ⟨G, _, M, _, ss, h ds M Q E hs, fun s' H' σ' M' G' e' ss' q => ⟨.non, M', G', e', ss'.mem, .non, q⟩, fun v H' kv => kv, fun _ _ _ _ _ _ _ z => z, fun _ _ _ _ _ _ _ z => z, fun c d s' H' ⟨C, fs, a, vs, σ, M, G', e1, e2, s5, h1, h2, q⟩ => ⟨C, fs, a, vs, M, G', e1, e2, s5.base, s5.mem, h1, h2, q⟩⟩)
    (fun fl s' hs' => ?_) fun e s' hs' => hs'
  cases fl with
  | ret u => obtain ⟨v, σ', H', J, rv, q⟩ := hs'; exact fin J rv q
  | next => obtain ⟨σ', H', J, q⟩ := hs'; exact fin (v := .non) (u := .none) J rfl q
  | brk => obtain ⟨_, _, _, z⟩ := hs'; exact z.elim
  | cont => obtain ⟨_, _, _, z⟩ := hs'; exact z.elim
end
end HA
/-! A7: repr, isinstance; methods and new instances; the end of a law. -/
namespace HA
open PySem PySem.Spec L2

/-! ### repr -/
/-- what may be shown -/
def ShowOk (d : PyData) : Prop := d.showable = true ∧ d.shown.length ≤ sizeLine ∧ d.depth ≤ 60 ∧ d.hasDict = false
theorem call_reprD {X : Cx} (hu : X.A.units + 64 < cLine) (hg : X.A.guards = some []) : CallR X (.builtin "repr") (fun xs H Q => ∃ x d, xs = [x] ∧ Dp X.K H x d ∧ ShowOk d ∧ Q (.str d.shown) H) := (by exact HA.Wq.get : @HA.Wq (CallR X (.builtin "repr") (fun xs H Q => ∃ x d, xs = [x] ∧ Dp X.K H x d ∧ ShowOk d ∧ Q (.str d.shown) H)) (by
  intro pins s st H xs us Q I r h
  obtain ⟨x, d, rfl, hd, ⟨h1, h2, h3, h4⟩, q⟩ := h
  obtain ⟨u, rfl, rx⟩ := vals1 r
  have fin : ∀ h' u tk, (∀ b o, s.heap.get? b = some o → h'.get? b = some o) → EP X pins st Q (.str d.shown u) { s with heap := h', toks := tk } := fun h' u tk k => ⟨.str d.shown, H, I.kept k, ⟨_, rfl⟩, q⟩
  cases hd with
  | non => cases rx; exact PySem.P.repr_of_none (fin s.heap _ _ fun _ _ e => e)
  | bl b => cases rx; exact PySem.P.repr_of_bool (fin s.heap _ _ fun _ _ e => e)
  | int i =>
    obtain ⟨t, rfl⟩ := rx
    exact PySem.P.repr_of_int (by simpa [PyData.showable] using h1) (fin s.heap _ _ fun _ _ e => e)
  | str z =>
    obtain ⟨t, rfl⟩ := rx
    exact PySem.P.repr_of_str (fin s.heap _ _ fun _ _ e => e) h2
  | lst hs ha =>
    obtain ⟨as, hr⟩ := Dp.reads I _ _ u (.lst hs ha) rx
    cases rx
    exact PySem.repr_of_reads' hr h1 (PyData.noDict_hsm h4) hg (by omega) (fun _ _ e => e) fin h2
  | tup hs ha =>
    obtain ⟨as, hr⟩ := Dp.reads I _ _ u (.tup hs ha) rx
    cases rx
    exact PySem.repr_of_reads' hr h1 (PyData.noDict_hsm h4) hg (by omega) (fun _ _ e => e) fin h2))
def cRepr : AC := fun xs M Q => match xs with
  | [x] => ∃ d, DR M x d ∧ ShowOk d ∧ Q (.str d.shown) M
  | _ => False
section
variable {X : Cx}
theorem cb_repr (hu : X.A.units + 64 < cLine) (hg : X.A.guards = some []) : CallB X "repr" cRepr := ⟨_, call_reprD hu hg, fun G M H xs vs Q R m r h k => by
  match xs, h with
  | [x], ⟨d, h1, h2, h3⟩ =>
    obtain ⟨v, rfl, rv⟩ := rpa1 r
    exact ⟨v, d, rfl, h1.dp m rv, h2, k _ _ (.here m (.str _) h3)⟩⟩

/-! ### isinstance of built-in types -/
def isB (S T : String) : Bool := S == T || (S == "bool" && T == "int")
def tyTab : List String := ["int", "bool", "str", "tuple", "list"]
theorem kitB_tab : ∀ S ∈ ["NoneType", "bool", "int", "str", "tuple", "list"], ∀ T ∈ tyTab, kitB S T = some (isB S T) := by decide +kernel
/-- the type of a thing -/
def TyD (M : Mem) (x : D) (S : String) : Prop := match x with
  | .non => S = "NoneType"
  | .bl _ => S = "bool"
  | .int _ => S = "int"
  | .str _ => S = "str"
  | .tup _ => S = "tuple"
  | x => S = "list" ∧ isLs M x
theorem TyD.mem {M : Mem} {x : D} {S : String} (h : TyD M x S) : S ∈ ["NoneType", "bool", "int", "str", "tuple", "list"] := by
  unfold TyD at h
  split at h <;> first | (subst h; decide) | (obtain ⟨rfl, _⟩ := h; decide)
theorem TyD.x {K : PySem.W.Frag} {G H : Hp} {M : Mem} {x : D} {S : String} {v : V} (m : SM K G M H) (r : Rp K G x v) (h : TyD M x S) : TyX K H v (.type S) := (by exact HA.Wq.get : @HA.Wq (TyX K H v (.type S)) (by
  unfold TyD at h
  split at h
  · subst h; cases r; exact .base .non
  · subst h; cases r; exact .base (.bl _)
  · subst h; cases r; exact .base (.int _)
  · subst h; cases r; exact .base (.str _)
  · subst h
    obtain ⟨a, vs, rfl, p, t⟩ := rp_tup r
    rcases same_sqt m.same p with (p | ⟨o, p⟩) | ⟨o, its, n, p, c, _⟩
    · exact .base (.tup p)
    · exact .fTuple p
    · exact .kTuple p c
  · obtain ⟨rfl, xs, h⟩ := h
    refine lsAt m r h fun a vs e p t => ?_
    subst e
    rcases p with (p | ⟨o, p⟩) | ⟨o, its, n, p, c, _⟩
    · exact .base (.lst p)
    · exact .base (.frz p)
    · exact .kList p c))
def cIsi : AC := fun xs M Q => match xs with
  | [x, .ty T] => ∃ S, TyD M x S ∧ T ∈ tyTab ∧ Q (.bl (isB S T)) M
  | [x, .tup cs] => ∃ (S : String) (Ts : List String), TyD M x S ∧ cs = Ts.map D.ty ∧ (∀ T ∈ Ts, T ∈ tyTab) ∧ Q (.bl (Ts.any (isB S))) M
  | _ => False
theorem kit_any {K : PySem.W.Frag} {S : String} (hS : S ∈ ["NoneType", "bool", "int", "str", "tuple", "list"]) : ∀ Ts : List String, (∀ T ∈ Ts, T ∈ tyTab) → PySem.W.kitAny K (.type S) (Ts.map Value.type) = some (Ts.any (isB S))
  | [], _ => kitAny_nil
  | T :: r, h => by
    have h1 := kit_ty (K := K) (kitB_tab S hS T (h T (by simp)))
    refine kitAny_cons h1 (fun e => ?_) fun e => ?_
    · rw [kit_any hS r fun T hT => h T (List.mem_cons_of_mem _ hT)]
      simp [e]
    · simp [e]
theorem ty_vs {K : PySem.W.Frag} {G : Hp} : ∀ {Ts : List String} {vs : List V}, RpA K G (Ts.map D.ty) vs → vs = Ts.map V.ty
  | [], _, h => by cases h; rfl
  | n :: r, _, h => by
    cases h with
    | cons a b => cases a; rw [ty_vs b]; rfl
theorem ty_cls : ∀ Ts : List String, Paired ClsV (Ts.map V.ty) (Ts.map Value.type)
  | [] => .nil
  | n :: r => .cons (.ty n) (ty_cls r)
theorem ty_vals : ∀ {Ts : List String} {us : List Value}, Vals (Ts.map V.ty) us → us = Ts.map Value.type
  | [], _, h => by cases h; rfl
  | n :: r, _, h => by
    cases h with
    | cons a b => rw [ty_vals b, show _ = Value.type n from a]; rfl
theorem cb_isi : CallB X "isinstance" cIsi := ⟨_, (call_isi.or call_isiT).or call_isiK, fun G M H xs vs Q R m r h k => by
  unfold cIsi at h
  split at h
  · obtain ⟨S, h1, h2, h3⟩ := h
    obtain ⟨v, w, rfl, r1, r2⟩ := rpa2 r
    cases r2
    exact .inl <| .inl ⟨v, _, _, _, _, rfl, .ty _, h1.x m r1, kit_ty (kitB_tab S h1.mem _ h2), k _ _ (.here m (.bl _) h3)⟩
  · obtain ⟨S, Ts, h1, h2, h3, h4⟩ := h
    obtain ⟨v, w, rfl, r1, r2⟩ := rpa2 r
    subst h2
    obtain ⟨a, ws, rfl, p, t⟩ := rp_tp r2
    have e := ty_vs t
    subst e
    have ka := kit_any (K := X.K) h1.mem Ts h3
    rcases p with p | ⟨⟨oc, od, dt, sl⟩, its, n, p1, p2, p3, _, p4⟩
    · exact .inl (.inr ⟨v, a, _, _, _, _, rfl, m.same _ _ p, ty_cls Ts, h1.x m r1, ka, k _ _ (.here m (.bl _) h4)⟩)
    · simp only at p2 p3
      subst p2 p3
      have e2 := ty_vals p4
      refine .inr ⟨v, a, od, Ts.map Value.type, n, sl, _, _, rfl, ?_, h1.x m r1, ka, k _ _ (.here m (.bl _) h4)⟩
      rw [p1, ← e2]
  · exact h.elim⟩
end
end HA
/-! A8: the end: a law's def over the head. -/
namespace HA
open PySem PySem.Spec L2
section
variable {P : Program} {w : World} {K : PySem.W.Frag} {mg mb : Str → Option Value} {k : Nat} {fa a : Addr} {fd : FuncData} {x : Str} {sp : ASp} {s₁ : Shared} {vs : List Value} {ns : List Int}
/-- the law's call where the abstract heap H holds at most the script -/
theorem end_core {H : Hp} (KX : K.In s₁.heap) (hns : s₁.heap.Ns mainGlobals mg) (hb : s₁.heap.Ns builtinsNs mb) (hbb : ∀ x : Str, x ≠ "__name__" → mb x = bootBuiltins x) (hlim : s₁.heap.NoLimit) (hg : s₁.gens = #[])
    (ha : s₁.heap.get? a = some { cls := .type "list", data := .seq vs.toArray }) (hr : Room k callerA)
    (F : ∀ base : Heap, K.In base → base.Ns mainGlobals mg → FA P w K mg base k fa fd [x] sp) (hbind : ∀ (s : Shared) (u : Value), BindsTo s fd ⟨[u], []⟩ [(x, u)])
    (hsp : sp [.frz (ns.map D.int)] (fun _ => none) (fun v _ => v = .bl true) (fun _ _ _ => False))
    (hS : SqL K H a (ns.map V.int)) (ok : HOk P w H s₁.heap) (hA : ∀ b o, H b = some o → b = a ∧ K.lookup a = none ∧ ∃ ob, s₁.heap.get? a = some ob ∧ ∃ u, o = .frz ob u) :
    codeAny (model P w) callerA (.call (.ref fa) ⟨[.ref a], []⟩) (fun r s' => r = .ok (.ret (.bool true)) ∧ OldK s₁.heap s'.heap ∧ s'.os = s₁.os ∧ PyProof.Rows.AllBare s'.gens) s₁ := by
  have free : ∀ b, b ≠ a → H b = none := fun b hb => by
    cases q : H b with
    | none => rfl
    | some u => exact absurd (hA b u q).1 hb
  have dictFree : ∀ {b : Addr} {o : Obj} {es : Array DictEntry} {ep : Nat}, s₁.heap.get? b = some o → o.data = .dict es ep → H b = none := fun {b o es ep} e d => free b fun z => by
    subst z; rw [ha] at e; cases e
    exact absurd (show Data.seq vs.toArray _ = Data.dict es ep from d) (fun z => by cases z)
  have keepNs : ∀ {b : Addr} {m : Str → Option Value}, s₁.heap.Ns b m → (hidT s₁.heap H).Ns b m := fun {b m} ⟨o, es, ep, e, d, r⟩ => ⟨o, es, ep, hidT_get e (dictFree e d), d, r⟩
  have keepK : K.In (hidT s₁.heap H) := fun b o e => hidT_get (KX b o e) (by
    cases q : H b with
    | none => rfl
    | some u => obtain ⟨rfl, h2, _⟩ := hA b u q; rw [h2] at e; cases e)
  have modOk : Mod K mg (hidT s₁.heap H) := ⟨keepK, keepNs hns, ⟨mb, keepNs hb, hbb⟩, hlim.imp fun mc z => ⟨keepNs z.1, z.2⟩⟩
  have env : Env0 P w K mg (hidT s₁.heap H) callerA [] s₁ H := ⟨rfl, modOk, fun b o e => of_hidT e, Nat.le_of_eq (hidT_size _ _), trivial, fun b z => absurd (show b ∈ ([] : List Addr) from z) (by simp), ok, .of_eq hg⟩
  have mem : SM K H (fun _ => none) H := ⟨Same.refl H, fun a c e => by cases e⟩
  refine codeAny_mono ((F _ keepK (keepNs hns)).run callerA [] s₁ H ⟨[.ref a], []⟩ [.ref a] [.ref a] _ H _ _ _ hr rfl env (hbind s₁ (.ref a)) (.cons rfl .nil) mem (.cons (.frz hS (.ints ns)) .nil) hsp) fun r s' h => ?_
  cases r with
  | error e =>
    obtain ⟨_, _, _, _, _, _, _, _, _, _, _, _, z⟩ := h
    obtain ⟨_, _, _, _, _, _, _, _, _, _, _, _, z⟩ := z
    exact z.elim
  | ok fl =>
    cases fl with
    | next => exact h.elim
    | brk => exact h.elim
    | cont => exact h.elim
    | ret u =>
      obtain ⟨v, H', os, bare, un, ok', r', d, M', G', _, _, rd, q⟩ := h
      subst q
      cases rd
      obtain rfl : u = Value.bool true := r'
      refine ⟨rfl, OldK.of_keep fun b o e => ?_, os, bare⟩
      cases q : H b with
      | none => exact un.keep b o e q (fun z => absurd (show b ∈ ([] : List Addr) from z) (by simp)) (by simp)
      | some u =>
        obtain ⟨rfl, _, ob, e0, u', rfl⟩ := hA b u q
        rw [e] at e0
        cases e0
        exact (ok' _ _ (un.frzs _ _ _ q)).1
theorem end_call (KX : K.In s₁.heap) (hns : s₁.heap.Ns mainGlobals mg) (hb : s₁.heap.Ns builtinsNs mb) (hbb : ∀ x : Str, x ≠ "__name__" → mb x = bootBuiltins x) (hlim : s₁.heap.NoLimit) (hg : s₁.gens = #[])
    (ha : s₁.heap.get? a = some { cls := .type "list", data := .seq vs.toArray }) (hi : PyProof.Rows.IntsAre vs ns) (hl : ns.length ≤ sizeLine) (hr : Room k callerA)
    (F : ∀ base : Heap, K.In base → base.Ns mainGlobals mg → FA P w K mg base k fa fd [x] sp) (hbind : ∀ (s : Shared) (u : Value), BindsTo s fd ⟨[u], []⟩ [(x, u)])
    (hsp : sp [.frz (ns.map D.int)] (fun _ => none) (fun v _ => v = .bl true) (fun _ _ _ => False)) :
    codeAny (model P w) callerA (.call (.ref fa) ⟨[.ref a], []⟩) (fun r s' => r = .ok (.ret (.bool true)) ∧ OldK s₁.heap s'.heap ∧ s'.os = s₁.os ∧ PyProof.Rows.AllBare s'.gens) s₁ := by
  have rv := vals_ints hi
  have lenV := hi.length
  cases hk : K.lookup a with
  | some o =>
    have e := KX a o hk
    rw [ha] at e
    cases e
    refine end_core (H := fun _ => none) KX hns hb hbb hlim hg ha hr F hbind hsp (.inr ⟨_, vs.toArray, _, hk, rfl, rfl, rfl, ?_, by simpa using rv⟩) (fun b u z => by cases z) fun b u z => by cases z
    rw [List.size_toArray, lenV]; exact hl
  | none =>
    let ob : Obj := { cls := .type "list", data := .seq vs.toArray }
    refine end_core (H := fun b => if b = a then some (.frz ob (.lst (ns.map V.int))) else none) KX hns hb hbb hlim hg ha hr F hbind hsp (.inl (.inr ⟨ob, if_pos rfl⟩)) (fun b u z => ?_) fun b u z => ?_
    · by_cases hb : b = a
      · subst hb
        have z' := (if_pos rfl).symm.trans z
        cases z'
        exact ⟨ha, by rw [List.length_map]; exact hl, vs, _, rv, ha⟩
      · exact absurd ((if_neg hb).symm.trans z) (fun q => by cases q)
    · by_cases hb : b = a
      · subst hb
        have z' := (if_pos rfl).symm.trans z
        cases z'
        exact ⟨rfl, hk, ob, ha, _, rfl⟩
      · exact absurd ((if_neg hb).symm.trans z) (fun q => by cases q)
end
/-- what a law promises: True, whatever the script -/
def spLaw : ASp := fun ds M Q _ => ∃ ns : List Int, ds = [.frz (ns.map D.int)] ∧ ns.length ≤ 63 ∧ (∀ z ∈ ns, z.natAbs < 2 ^ big) ∧ (∀ a, M a = none) ∧ ∀ M', Q (.bl true) M'
theorem bits_lt {z : Int} (h : Builtin.Int.intBits z ≤ 1048576) : z.natAbs < 2 ^ big := (by exact HA.Wq.get : @HA.Wq (z.natAbs < 2 ^ big) (by
  have e := Nat.lt_log2_self (n := z.natAbs)
  have hb : Builtin.Int.intBits z ≤ big := by unfold big; exact h
  refine Nat.lt_of_lt_of_le (m := 2 ^ Builtin.Int.intBits z) ?_ (Nat.pow_le_pow_right (by decide) hb)
  unfold Builtin.Int.intBits
  by_cases h0 : z = 0
  · subst h0; exact Nat.two_pow_pos _
  · rw [if_neg (by simpa using h0)]; exact e))
theorem walk_A {l : PySem.W.OpenLaw} {k : Nat} {q : Program} {loose : List Str} {XP : (Str → Option Value) → Heap → Prop} {YP : World → Heap → Prop} {d : DefRec} {K : Params → PySem.W.Frag} {x : Str}
    (hn : l.most = some 63) (hdf : d.params.defaults = []) (hr : Room k callerA)
    (hY : ∀ (w : World) (h : Heap), YP w h → (K w.params).In h)
    (F : ∀ (w : World) (mg : Str → Option Value) (fa : Addr) (h : Heap), (K w.params).In h → h.Ns mainGlobals mg → mg d.name = some (.ref fa) →
      ∃ fd : FuncData, (∀ (s : Shared) (u : Value), BindsTo s fd ⟨[u], []⟩ [(x, u)]) ∧ ∀ base : Heap, (K w.params).In base → base.Ns mainGlobals mg → FA l.prog w (K w.params) mg base k fa fd [x] spLaw) :
    PySem.W.WalkO q loose XP YP l.row.toRowW d [] (fun f vs => PySem.call f vs) := by
  refine Att.attach_callB hn hdf fun w s₀ s₁ mg mb fa o pm cd doc a vs ns G Y ho hd hcd hmg hobj hints hlen hbits hgen => ?_
  obtain ⟨fd, hb, hF⟩ := F w mg fa _ (hY w _ Y) G.T.g hmg
  exact end_call (hY w _ Y) G.T.g G.T.b G.T.builtins G.T.nolimit hgen hobj hints (Nat.le_trans hlen (by decide)) hr hF hb ⟨ns, rfl, hlen, fun z hz => bits_lt (hbits z hz), fun _ => rfl, fun _ => rfl⟩
end HA
/-! A9: short names for what a program prints. -/
namespace HA
open PySem PySem.Spec L2
abbrev oAdd : A2 := bAdd
abbrev oSub : A2 := bI0 fun i j => i - j
abbrev oMod : A2 := bI ModOk fun i j => i % j
abbrev oDiv : A2 := bI DivOk fun i j => i / j
abbrev oPow : A2 := bI CPow fun i j => i ^ j.toNat
abbrev oShl : A2 := bI ShlOk fun i j => i * 2 ^ j.toNat
abbrev oShr : A2 := bI ShrOk fun i j => i / 2 ^ j.toNat
abbrev oAnd : A2 := bI0 Builtin.bitAnd
abbrev oOr : A2 := bI0 Builtin.bitOr
abbrev oXor : A2 := bI0 Builtin.bitXor
abbrev oLt : A2 := bC fun i j => decide (i < j)
abbrev oLe : A2 := bC fun i j => decide (i ≤ j)
abbrev oGt : A2 := bC fun i j => decide (j < i)
abbrev oGe : A2 := bC fun i j => decide (j ≤ i)
abbrev oEq : A2 := bEq false
abbrev oNe : A2 := bEq true
abbrev oIs : A2 := bIsN false
abbrev oIsNot : A2 := bIsN true
section
variable {X : Cx} {B : Hp} {W : WX} {a b c e o i tg : Expr} {es rest : List Expr} {ta tb tc te : AE} {tt tu : AT} {tas : AA} {ti : AI} {pos p : Pos}
/-- a product: ints; a tuple or a list and an int -/
@[simp] def bMul : A2 := fun x y M Q => match x, y with
  | .int i, .int j => MulOk i j ∧ Q (.int (i * j)) M
  | _, _ => False
abbrev oMul : A2 := bMul
theorem bMul_ok {K : PySem.W.Frag} : OkR K bMul (rI MulOk fun i j => .int (i * j)) := fun G M H x y xv yv Q R m rx ry h k => by
  match x, y, h with
  | .int i, .int j, h => exact ⟨i, j, rp_int rx, rp_int ry, h.1, k _ _ (.here m (.int _) h.2)⟩
theorem qe_mul (ha : QE X B W a ta) (hb : QE X B W b tb) : QE X B W (.BinOp a .Mult b pos) (aOp bMul ta tb) := qe_op op_mulO bMul_ok ha hb
theorem qe_gint {x : Str} {i : Int} (h : ∃ t, X.mg x = some (.int i t)) (hg : Gl X x := by rfl) (hd : (x == ("__debug__" : Str)) = false := by decide) : QE X B W (.Name x pos) (aC (.int i)) := by
  obtain ⟨t, h⟩ := h
  exact qe_glob (v := .int i) hg h ⟨t, rfl⟩ (fun _ => .int i) hd
theorem qe_gstr {x : Str} {i : Str} (h : ∃ t, X.mg x = some (.str i t)) (hg : Gl X x := by rfl) (hd : (x == ("__debug__" : Str)) = false := by decide) : QE X B W (.Name x pos) (aC (.str i)) := by
  obtain ⟨t, h⟩ := h
  exact qe_glob (v := .str i) hg h ⟨t, rfl⟩ (fun _ => .str i) hd
/-- a list or a tuple walked -/
@[simp] def aWalk (te : AE) : AI := fun σ M Q E => te σ M (fun x M1 => match x with
  | .tup xs => Q xs (fun _ => True) M1
  | x => ∃ xs, LsAt M1 x xs ∧ Q xs (still x xs) M1) E
section
variable {pins : List (Addr × Obj)} {s : Shared} {sc : L2.St} {H : Hp} {ad : Addr} {vs : List V} {R : It → Hp → Prop}
theorem it_list (I : Inv X pins sc H s) (hq : SqL X.K H ad vs) (q : R (Itl X.K ad) H) : wpAny (model X.prog X.w) X.A (pyIter (.ref ad)) (PIE X pins sc tg R) X.xe s := (by exact HA.Wq.get : @HA.Wq (wpAny (model X.prog X.w) X.A (pyIter (.ref ad)) (PIE X pins sc tg R) X.xe s) (by
  obtain ⟨its, rv, pl, hz⟩ := I.list hq
  refine wpAny_pyIter_list pl.isList ⟨s.heap.objs.size, [s.heap.objs.size], _, _, H, rfl, I.kept (t' := s.toks) fun b o e => Heap.get?_push_of_some _ e, turn_list ad _, ⟨_, Heap.get?_push_size _ rfl, rfl, rfl⟩, ?_, q⟩
  intro b hb
  obtain rfl : b = s.heap.objs.size := by simpa using hb
  exact I.fpOk (Nat.le_refl _) (I.hok.fresh (Nat.le_refl _))))
theorem it_tup (I : Inv X pins sc H s) (hq : SqT X.K H ad vs) (q : R (Itt X.K ad) H) : wpAny (model X.prog X.w) X.A (pyIter (.ref ad)) (PIE X pins sc tg R) X.xe s := (by exact HA.Wq.get : @HA.Wq (wpAny (model X.prog X.w) X.A (pyIter (.ref ad)) (PIE X pins sc tg R) X.xe s) (by
  obtain ⟨its, rv, pl, hz⟩ := I.tuple hq
  refine wpAny_pyIter_tuple (show s.heap.IsTuple ad its.toArray from pl) ⟨s.heap.objs.size, [s.heap.objs.size], _, _, H, rfl, I.kept (t' := s.toks) fun b o e => Heap.get?_push_of_some _ e, turn_tuple ad _, ⟨_, Heap.get?_push_size _ rfl, rfl, rfl⟩, ?_, q⟩
  intro b hb
  obtain rfl : b = s.heap.objs.size := by simpa using hb
  exact I.fpOk (Nat.le_refl _) (I.hok.fresh (Nat.le_refl _))))
end
theorem qi_seq (he : QE X B W e te) : QI X B W tg e (aWalk te) := ⟨fun pins s sc H R I ⟨G, σ, M, Q, E, ss, h, k, kx⟩ => by
  refine thn (he.run pins s sc H (Kv X.K G fun x M1 => match x with
    | .tup xs => Q xs (fun _ => True) M1
    | x => ∃ xs, LsAt M1 x xs ∧ Q xs (still x xs) M1) I ⟨G, σ, M, _, E, ss, h, fun v H' kv => kv, kx⟩) fun v s1 ⟨x, H1, I1, r1, d, M1, G1, e1, m1, rd, q⟩ => ?_
  dsimp only at q
  split at q
  · rename_i xs
    obtain ⟨a, vs, rfl, p, t⟩ := rp_tup rd
    cases r1
    refine it_tup I1 (same_sqt m1.same p) (k _ H1 xs _ M1 G1 e1 m1 (itok_tup fun G' M' H' e' m' s' => ?_) q)
    exact ⟨vs, same_sqt m'.same (same_sqt e' p), t.up e'⟩
  · obtain ⟨xs, h1, q⟩ := q
    have ok : ∀ a, x = .ref a → ItOk X.K G1 xs (still d xs) (Itl X.K a) := fun a ea => itok_list fun G' M' H' e' m' s' => by
      have r' := rd.up e'
      match d, h1, s', r' with
      | .lst ys, h1, s', r' => cases h1; cases r' with | lst g t => cases ea; exact ⟨_, .of (m'.same _ _ g), t⟩
      | .frz ys, h1, s', r' => cases h1; cases r' with | frz g t => cases ea; exact ⟨_, m'.same.seq g, t⟩
      | .ref b, h1, s', r' => cases r'; cases ea; obtain ⟨vs, t, eH⟩ := cellL m' s'; exact ⟨vs, .of eH, t⟩
    refine lsAt m1 rd h1 fun a vs ea p t => ?_
    have ok2 := ok a ea
    subst ea
    cases r1
    exact it_list I1 p (k _ H1 xs _ M1 G1 e1 m1 ok2 q)⟩
end
theorem bB_len : bootBuiltins "len" = some (.builtin "len") := by decide +kernel
theorem bB_abs : bootBuiltins "abs" = some (.builtin "abs") := by decide +kernel
theorem bB_max : bootBuiltins "max" = some (.builtin "max") := by decide +kernel
theorem bB_min : bootBuiltins "min" = some (.builtin "min") := by decide +kernel
theorem bB_repr : bootBuiltins "repr" = some (.builtin "repr") := by decide +kernel
theorem bB_isinstance : bootBuiltins "isinstance" = some (.builtin "isinstance") := by decide +kernel
theorem bB_sum : bootBuiltins "sum" = some (.builtin "sum") := by decide +kernel
theorem bB_sorted : bootBuiltins "sorted" = some (.builtin "sorted") := by decide +kernel
theorem bB_all : bootBuiltins "all" = some (.builtin "all") := by decide +kernel
theorem bB_any : bootBuiltins "any" = some (.builtin "any") := by decide +kernel
theorem bT_int : bootBuiltins "int" = some (.type "int") := by decide +kernel
theorem bT_bool : bootBuiltins "bool" = some (.type "bool") := by decide +kernel
theorem bT_str : bootBuiltins "str" = some (.type "str") := by decide +kernel
theorem bT_tuple : bootBuiltins "tuple" = some (.type "tuple") := by decide +kernel
theorem bT_list : bootBuiltins "list" = some (.type "list") := by decide +kernel
end HA
/-! A10: t[::-1] of a tuple; observing no memory; freezing; drawn deals; loops. -/
namespace HA
open PySem PySem.Spec PyProof.Rows L2

/-! ### t[::-1] -/
theorem rev_places (n : Nat) : Builtin.Slice.slicePlaces ((n : Int) - 1) (-1) (-1) = n := (by exact HA.Wq.get : @HA.Wq (Builtin.Slice.slicePlaces ((n : Int) - 1) (-1) (-1) = n) (by
  unfold Builtin.Slice.slicePlaces
  rw [if_neg (by decide)]
  by_cases h : n = 0
  · subst h; rfl
  · rw [if_pos (by omega)]
    have e : (n : Int) - 1 - -1 - 1 = (n : Int) - 1 := by omega
    have e2 : (- -1 : Int) = 1 := by decide
    rw [e, e2, Int.ediv_one]
    omega))
theorem rev_items (its : List Value) : ((List.range its.length).filterMap fun (k : Nat) => its.toArray[(((its.length : Int) - 1) + (k : Int) * -1).toNat]?) = its.reverse := (by exact HA.Wq.get : @HA.Wq (((List.range its.length).filterMap fun (k : Nat) => its.toArray[(((its.length : Int) - 1) + (k : Int) * -1).toNat]?) = its.reverse) (by
  apply List.ext_getElem?
  intro i
  have key : ∀ m, m ≤ its.length → ((List.range m).filterMap fun (k : Nat) => its.toArray[(((its.length : Int) - 1) + (k : Int) * -1).toNat]?) = its.reverse.take m := by
    intro m
    induction m with
    | zero => intro _; rfl
    | succ m ih =>
      intro hm
      rw [List.range_succ, List.filterMap_append, ih (by omega), List.take_succ]
      congr 1
      have e : (((its.length : Int) - 1) + (m : Int) * -1).toNat = its.length - 1 - m := by omega
      simp only [List.filterMap_cons, List.filterMap_nil, e]
      have h1 : its.reverse[m]? = its[its.length - 1 - m]? := List.getElem?_reverse (by omega)
      rw [h1]
      have h2 : its.toArray[its.length - 1 - m]? = its[its.length - 1 - m]? := by simp
      rw [h2]
      cases its[its.length - 1 - m]? <;> rfl
  rw [key its.length (Nat.le_refl _), List.take_of_length_le (by simp)]))
section
variable {prog : Program} {w : World} {A : Around} {E : Value → Shared → Prop} {s : Shared}
theorem tuple_rev_item {t sl : Addr} {its : List Value} {tk : Tok} {Q : Value → Shared → Prop} (ht : IsTup s.heap t its.toArray) (hs : s.heap.IsSliceOf sl .none .none (.int (-1) tk)) (hz : its.length ≤ sizeLine)
    (h : Q (.ref s.heap.objs.size) { s with heap := s.heap.push { cls := .type "tuple", data := .seq its.reverse.toArray } }) : wpAny (model prog w) A (getItem (.ref t) (.ref sl)) Q E s := by
  have big : sizeOk (.seq its.reverse.toArray) := by
    show its.reverse.toArray.size ≤ sizeLine
    rw [List.size_toArray, List.length_reverse]; exact hz
  have ty : s.TypeIs (.ref sl) "slice" := let ⟨o, a, b, _⟩ := hs; ⟨o, a, b⟩
  obtain ⟨os, hos, _, hds⟩ := hs
  unfold getItem
  try with_reducible refine wpAny_holding ?_
  first | refine wpAny_bind (wpAny_pure ?_) | skip
  refine wpAny_bind (wpAny_sequenceKey ht.typeIs (by decide) ?_)
  refine wpAny_bind (wpAny_callSpecial?_slot (name := Str.ofString "__getitem__") ht.typeIs slot_tuple_getitem (wpAny_call_entry slot_tuple_getitem ht.typeIs entry_tuple_getitem ?_ (args_tuple_getitem _ _)))
  show wpAny _ _ (Builtin.Tuple.tupleItemsOf (.ref t) >>= _) _ _ s
  refine wpAny_bind (tupleItemsOf_ ht (wpAny_bind (wpAny_typeOf ty ?_)))
  rw [if_pos (by decide)]
  refine wpAny_bind ?_
  unfold Builtin.Slice.sliceApplied Builtin.Slice.sliceFields
  refine wpAny_bind (wpAny_bind (wpAny_field hos hds (x := .none) rfl (wpAny_bind (wpAny_field hos hds (x := .none) rfl (wpAny_bind (wpAny_field hos hds (x := .int (-1) tk) rfl (wpAny_pure ?_)))))))
  refine wpAny_bind (HT.slicePart_ (.int (-1) tk) ?_)
  show wpAny _ _ (if ((-1 : Int) == 0) = true then _ else _) _ _ s
  rw [if_neg (by decide)]
  refine wpAny_bind (HT.slicePart_ .none (wpAny_bind (HT.slicePart_ .none (wpAny_bind (wpAny_pure ?_)))))
  have ea : Builtin.Slice.sliceAdjust none none (-1) ((its.toArray.size : Nat) : Int) = ((its.length : Int) - 1, -1) := by
    unfold Builtin.Slice.sliceAdjust
    simp
  show wpAny _ _ (match Builtin.Slice.sliceAdjust none none (-1) ((its.toArray.size : Nat) : Int) with | (lo, hi) => pure (lo, (-1 : Int), Builtin.Slice.slicePlaces lo hi (-1))) _ _ s
  rw [ea]
  show wpAny _ _ (pure ((its.length : Int) - 1, (-1 : Int), Builtin.Slice.slicePlaces ((its.length : Int) - 1) (-1) (-1))) _ _ s
  rw [rev_places]
  refine wpAny_pure ?_
  have hno : ¬ ((((its.length : Int) - 1) == 0 && (-1 : Int) == 1 && its.length == its.toArray.size) = true) := by
    have : ((-1 : Int) == 1) = false := by decide
    rw [this, Bool.and_false, Bool.false_and]
    exact Bool.false_ne_true
  show wpAny _ _ (if ((((its.length : Int) - 1) == 0 && (-1 : Int) == 1 && its.length == its.toArray.size) = true) then _ else _) _ _ s
  rw [if_neg hno, rev_items]
  first
    | exact wpAny_bind (m := Builtin.Tuple.tupleExact _) (wpAny_newObj_type (wpAny_pure ⟨_, rfl, wpAny_pure h⟩) big)
    | exact wpAny_bind (m := Builtin.Tuple.tupleExact _) (wpAny_newObj_type (wpAny_bind (wpAny_pure (wpAny_pure ⟨_, rfl, wpAny_pure h⟩))) big)
    | exact wpAny_bind (wpAny_bind (m := Builtin.Tuple.tupleExact _) (wpAny_newObj_type (wpAny_pure (wpAny_pure ⟨_, rfl, wpAny_pure h⟩)) big))
    | exact wpAny_bind (wpAny_bind (m := Builtin.Tuple.tupleExact _) (wpAny_newObj_type (wpAny_pure ⟨_, rfl, wpAny_pure h⟩) big))
end

section
variable {X : Cx} {B : Hp} {W : WX} {e : Expr} {te : AE} {pos : Pos}
/-- x[::-1] of a tuple or a list -/
@[simp] def aRev (te : AE) : AE := fun σ M Q E => te σ M (fun x M1 => match x with
  | .tup xs => Q (.tup xs.reverse) M1
  | x => ∃ xs, LsAt M1 x xs ∧ ∀ p, M1 p = none → Q (.ref p) (mset M1 p (.lst xs.reverse))) E
def tRevT (K : PySem.W.Frag) (te : TE) : TE := fun σ H Q => te σ H fun x H1 => ∃ a xs, x = .ref a ∧ SqT K H1 a xs ∧ ∀ p, H1 p = none → Q (.ref p) (upd H1 p (.tup xs.reverse))
theorem pe_revB {e : Expr} {te : TE} {k : Nat} {p1 p2 p3 pos : Pos} (he : PE X e te) : PE X (.Subscript e (.Slice none none (some (.UnaryOp .USub (.Constant (.int 1) k p1) p2)) p3) pos)
    (fun σ H Q => te σ H fun x H1 => (∃ a xs, x = .ref a ∧ SqT X.K H1 a xs ∧ ∀ p, H1 p = none → Q (.ref p) (upd H1 p (.tup xs.reverse))) ∨ ∃ a xs, x = .ref a ∧ SqL X.K H1 a xs ∧ ∀ p, H1 p = none → Q (.ref p) (upd H1 p (.lst xs.reverse))) := (by exact HA.Wq.get : @HA.Wq (PE X (.Subscript e (.Slice none none (some (.UnaryOp .USub (.Constant (.int 1) k p1) p2)) p3) pos) (fun σ H Q => te σ H fun x H1 => (∃ a xs, x = .ref a ∧ SqT X.K H1 a xs ∧ ∀ p, H1 p = none → Q (.ref p) (upd H1 p (.tup xs.reverse))) ∨ ∃ a xs, x = .ref a ∧ SqL X.K H1 a xs ∧ ∀ p, H1 p = none → Q (.ref p) (upd H1 p (.lst xs.reverse)))) (by
  refine ⟨fun pins s σ H Q I h => ?_⟩
  refine Subscript_ (thn (he.run pins s σ H _ I h) fun v s1 ⟨x, H1, I1, r1, q1⟩ => ?_)
  have hst : PO X (some (.UnaryOp .USub (.Constant (.int 1) k p1) p2)) (tPart (tUn (rU fun i => .int (-i)) (tC (.int 1)))) := po_some (pe_un un_neg pe_int)
  refine wpAny_Slice (thn (po_none.run pins s1 σ H1 (fun o H2 => o = none ∧ H2 = H1) I1 ⟨rfl, rfl⟩) fun vl s2 ⟨l, H2, I2, pl, el, e2⟩ => ?_)
  subst el e2
  refine thn (po_none.run pins s2 σ H2 (fun o H3 => o = none ∧ H3 = H2) I2 ⟨rfl, rfl⟩) fun vu s3 ⟨u, H3, I3, pu, eu, e3⟩ => ?_
  subst eu e3
  refine thn (hst.run pins s3 σ H3 (fun o H4 => o = some (-1) ∧ H4 = H3) I3 ⟨1, rfl, -1, rfl, rfl, rfl⟩) fun vs s4 ⟨o, H4, I4, ps, eo, e4⟩ => ?_
  subst eo e4
  have I5 : Inv X pins σ H4 { s4 with heap := s4.heap.push { cls := .type "slice", data := .fields #[vl, vu, vs] } } := I4.kept (t' := s4.toks) fun b ob q => Heap.get?_push_of_some _ q
  show wpAny (model X.prog X.w) X.A (subscriptTail e (.Slice none none (some (.UnaryOp .USub (.Constant (.int 1) k p1) p2)) p3) v (.ref s4.heap.objs.size)) (EP X pins σ Q) X.xe { s4 with heap := s4.heap.push { cls := .type "slice", data := .fields #[vl, vu, vs] } }
  rcases q1 with ⟨a, xs, ex, hx, q⟩ | ⟨a, xs, ex, hx, q⟩
  · subst ex
    cases r1
    obtain ⟨its, r, ht, hz⟩ := I5.tuple hx
    have hl := r.length
    refine tail_any (ops := [.ref a, .ref s4.heap.objs.size]) ht.typeIs slot_tuple_getitem.lookup ?_ (by with_unfolding_all rfl)
    cases pl
    cases pu
    cases ps with
    | int _ tk =>
      refine tuple_rev_item ht (Heap.IsSliceOf.new ..) (by omega) ?_
      exact ⟨.ref _, _, I5.laid (t' := s4.toks) (o := .tup xs.reverse) (fun b ob q => Heap.get?_push_of_some _ q) (Nat.le_refl _) ⟨by rw [List.length_reverse]; exact hz, _, r.reverse, IsTup.new _ _⟩, rfl, q _ (I5.hok.fresh (Nat.le_refl _))⟩
  · subst ex
    cases r1
    obtain ⟨its, r, ht, hz⟩ := I5.list hx
    have hl := r.length
    refine tail_any (ops := [.ref a, .ref s4.heap.objs.size]) ht.isList.typeIs (PySem.slot_list_getitem.lookup) ?_ (by with_unfolding_all rfl)
    refine wpAny_getItem_list_slice ht.isList (Heap.IsSliceOf.new _ vl vu vs) pl pu ps (by decide) ?_ (by rw [List.size_toArray]; omega)
    rw [PySem.W.krv_pick]
    exact ⟨.ref _, _, I5.laid (t' := s4.toks) (o := .lst xs.reverse) (fun b ob q => Heap.get?_push_of_some _ q) (Nat.le_refl _) ⟨by rw [List.length_reverse]; exact hz, _, 0, r.reverse, Heap.get?_push_size _ rfl⟩, rfl, q _ (I5.hok.fresh (Nat.le_refl _))⟩))
theorem qe_rev {j : Nat} {p1 q1 p3 : Pos} (he : QE X B W e te) : QE X B W (.Subscript e (.Slice none none (some (.UnaryOp .USub (.Constant (.int 1) j p1) q1)) p3) pos) (aRev te) :=
  pe_imp (pe_revB he) fun s H R ⟨G, σ, M, Q, E, ss, h, k, kx⟩ => ⟨G, σ, M, _, E, ss, h, fun v H1 ⟨x, M1, G1, e1, m1, r1, q⟩ => by
    dsimp only at q
    split at q
    · obtain ⟨a, vs, rfl, p, t⟩ := rp_tup r1
      exact .inl ⟨a, vs, rfl, same_sqt m1.same p, fun p hp => Kv.tup m1 (fun v H' kv => k v H' (kv.lift e1)) t.reverse hp q⟩
    · obtain ⟨xs, h1, h2⟩ := q
      refine lsAt m1 r1 h1 fun a vs e p t => ?_
      exact .inr ⟨a, vs, e, p, fun p hp => Kv.lst m1 (fun v H' kv => k v H' (kv.lift e1)) t.reverse hp h2⟩, kx⟩
end

/-! ### freezing -/
mutual
/-- d, its lists among fs frozen, is d' -/
inductive Fz (M : Mem) (fs : List Addr) : D → D → Prop
  | same (d : D) : Fz M fs d d
  | tup {xs ys : List D} : FzA M fs xs ys → Fz M fs (.tup xs) (.tup ys)
  | lst {p : Addr} {xs ys : List D} : p ∈ fs → M p = some (.lst xs) → FzA M fs xs ys → Fz M fs (.ref p) (.lst ys)
inductive FzA (M : Mem) (fs : List Addr) : List D → List D → Prop
  | nil : FzA M fs [] []
  | cons {d d' : D} {xs ys : List D} : Fz M fs d d' → FzA M fs xs ys → FzA M fs (d :: xs) (d' :: ys)
end
theorem FzA.same {M : Mem} {fs : List Addr} : ∀ xs : List D, FzA M fs xs xs
  | [] => .nil
  | x :: r => .cons (.same x) (FzA.same r)
section
variable {K : PySem.W.Frag} {G G2 H : Hp} {M M2 : Mem} {fs : List Addr}
mutual
theorem Fz.rp (m : SM K G M H) (e : Same G G2) (hf : ∀ p ∈ fs, G2 p = H p) : ∀ {d d' : D} {v : V}, Fz M fs d d' → Rp K G d v → Rp K G2 d' v
  | _, _, _, .same d, r => r.up e
  | _, _, _, .tup t, .tup h k => .tup (h.up e) (FzA.rp m e hf t k)
  | _, _, _, .lst hp h t, r => by
    cases r
    obtain ⟨vs, k, eH⟩ := cellL m h
    exact .lst ((hf _ hp).trans eH) (FzA.rp m e hf t k)
theorem FzA.rp (m : SM K G M H) (e : Same G G2) (hf : ∀ p ∈ fs, G2 p = H p) : ∀ {d d' : List D} {v : List V}, FzA M fs d d' → RpA K G d v → RpA K G2 d' v
  | _, _, _, .nil, r => by cases r; exact .nil
  | _, _, _, .cons a b, r => by cases r with | cons r1 r2 => exact .cons (Fz.rp m e hf a r1) (FzA.rp m e hf b r2)
end
open Classical in
theorem SM.freeze (m : SM K G M H) (hl : MLe M2 M) (hn : ∀ p ∈ fs, M2 p = none) : ∃ G2, Same G G2 ∧ SM K G2 M2 H ∧ ∀ p ∈ fs, G2 p = H p := (by exact HA.Wq.get : @HA.Wq (∃ G2, Same G G2 ∧ SM K G2 M2 H ∧ ∀ p ∈ fs, G2 p = H p) (by
  refine ⟨fun b => if b ∈ fs then H b else G b, fun b u e => ?_, ⟨fun b u e => ?_, fun a c e => ?_⟩, fun p hp => if_pos hp⟩
  · show (if b ∈ fs then H b else G b) = some u
    by_cases h : b ∈ fs
    · rw [if_pos h]; exact m.same _ _ e
    · rw [if_neg h]; exact e
  · have e' : (if b ∈ fs then H b else G b) = some u := e
    by_cases h : b ∈ fs
    · rw [if_pos h] at e'; exact e'
    · rw [if_neg h] at e'; exact m.same _ _ e'
  · have ha : a ∉ fs := fun z => by rw [hn a z] at e; cases e
    obtain ⟨h1, h2⟩ := m.cell a c (hl a c e)
    refine ⟨(if_neg ha).trans h1, h2.up (fun b u e => ?_) rfl⟩
    show (if b ∈ fs then H b else G b) = some u
    by_cases h : b ∈ fs
    · rw [if_pos h]; exact m.same _ _ e
    · rw [if_neg h]; exact e))
/-- d in M' may be told as d' in M -/
def Gh (M : Mem) (d : D) (M' : Mem) (d' : D) : Prop := ∃ fs, Fz M' fs d d' ∧ MLe M M' ∧ ∀ p ∈ fs, M p = none
theorem Gh.refl (M : Mem) (d : D) : Gh M d M d := ⟨[], .same d, .refl M, fun _ h => nomatch h⟩
theorem Gh.drop {M M' : Mem} (h : MLe M M') (d : D) : Gh M d M' d := ⟨[], .same d, h, fun _ h => nomatch h⟩
theorem Gh.lst {M M' : Mem} {p : Addr} {xs : List D} (h : MLe M M') (hp : M p = none) (e : M' p = some (.lst xs)) : Gh M (.ref p) M' (.lst xs) :=
  ⟨[p], .lst (by simp) e (FzA.same xs), h, fun q hq => by rw [List.mem_singleton] at hq; subst hq; exact hp⟩
theorem Kv.gh {Q : DK} {v : V} (h : Kv K G (fun d M' => ∃ d' M2, Gh M2 d M' d' ∧ Q d' M2) v H) : Kv K G Q v H := by
  obtain ⟨d, M', G', e, m, r, d', M2, ⟨fs, fz, hl, hn⟩, q⟩ := h
  obtain ⟨G2, e2, m2, hf⟩ := m.freeze hl hn
  exact ⟨d', M2, G2, e.trans e2, m2, fz.rp m e2 hf r, q⟩
end
section
variable {X : Cx} {B : Hp} {W : WX} {e : Expr} {te : AE} {tt : AT} {pos : Pos}
/-- an expression that leaves the memory as it was, its value told frozen -/
@[simp] def aFz (te : AE) : AE := fun σ M Q E => te σ M (fun d M' => ∃ d', Gh M d M' d' ∧ Q d' M) E
theorem qe_fz (h : QE X B W e te) : QE X B W e (aFz te) := pe_imp h fun s H R ⟨G, σ, M, Q, E, ss, h, k, kx⟩ => ⟨G, σ, M, _, E, ss, h, fun v H1 kv => k v H1 (by
  obtain ⟨d, M', G', e, m, r, d', hg, q⟩ := kv
  exact Kv.gh ⟨d, M', G', e, m, r, d', M, hg, q⟩), kx⟩
@[simp] def aFzT (tt : AT) : AT := fun σ M Q E => tt σ M (fun b M' => MLe M M' ∧ Q b M) E
theorem qt_fz (h : QT X B W e tt) : QT X B W e (aFzT tt) := pt_imp h fun s H R ⟨G, σ, M, Q, E, ss, h, k, kx⟩ => ⟨G, σ, M, _, E, ss, h, fun b H1 M1 G1 e m ⟨l, q⟩ => k b H1 M G1 e (m.drop l) q, kx⟩
end
end HA
/-! A11: frozen displays, sums, slices, comprehensions; a def's exits; drawn deals. -/
namespace HA
open PySem PySem.Spec L2
section
variable {K : PySem.W.Frag} {G H : Hp} {M : Mem}
/-- a new list that nothing changes -/
theorem Kv.lstF {Q : DK} {R : VK} {p : Addr} {xs : List D} {vs : List V} (m : SM K G M H) (k : ∀ v H', Kv K G Q v H' → R v H') (r : RpA K G xs vs) (hp : H p = none) (q : Q (.lst xs) M) : R (.ref p) (upd H p (.lst vs)) := by
  have g0 := (m.free hp).1
  exact k _ _ ⟨.lst xs, M, _, same_upd g0, m.frozen hp, .lst upd_same (r.up (same_upd g0)), q⟩
end
section
variable {X : Cx} {B : Hp} {W : WX} {a b c e o i tg : Expr} {es rest : List Expr} {ta tb tc te : AE} {tt tu : AT} {tas : AA} {ti : AI} {tl th : AO} {lo hi : Option Expr} {pos p2 p : Pos}
@[simp] def aLstF (t : AA) : AE := fun σ M Q E => t σ M (fun xs M1 => xs.length ≤ sizeLine ∧ Q (.lst xs) M1) E
theorem qe_lstF (h : QA X B W es tas) : QE X B W (.List es pos) (aLstF tas) :=
  pe_imp (pe_lst h) fun s H R ⟨G, σ, M, Q, E, ss, h, k, kx⟩ => ⟨G, σ, M, _, E, ss, h, fun vs H1 ds M1 G1 e m r q => ⟨by rw [← r.len]; exact q.1, fun p hp => Kv.lstF m (fun v H' kv => k v H' (kv.lift e)) r hp q.2⟩, kx⟩
/-- +, a sum of lists frozen -/
@[simp] def bAddF : A2 := fun x y M Q => match x, y with
  | .int i, .int j => Q (.int (i + j)) M
  | .str i, .str j => i.length + j.length ≤ sizeLine ∧ Q (.str (i ++ j)) M
  | .tup xs, .tup ys => xs.length + ys.length ≤ sizeLine ∧ Q (.tup (xs ++ ys)) M
  | x, y => ∃ xs ys, LstAt M x xs ∧ LstAt M y ys ∧ xs.length + ys.length ≤ sizeLine ∧ Q (.lst (xs ++ ys)) M
theorem bAddF_ok {K : PySem.W.Frag} : OkR K bAddF (rAddA K) := fun G M H x y xv yv Q R m rx ry h k => by
  unfold bAddF at h
  split at h
  · cases rx; cases ry
    exact .inl (.inl ⟨_, _, rfl, rfl, k _ _ (.here m (.int _) h)⟩)
  · cases rx; cases ry
    exact .inl (.inr ⟨_, _, rfl, rfl, h.1, k _ _ (.here m (.str _) h.2)⟩)
  · exact bAdd_ok G M H _ _ xv yv Q R m rx ry h k
  · obtain ⟨xs, ys, h1, h2, hz, q⟩ := h
    refine lstAt m rx h1 fun a vs e1 p1 r1 => lstAt m ry h2 fun b ws e2 p2 r2 => ?_
    exact .inr (.inr ⟨a, b, vs, ws, e1, e2, p1, p2, by rw [← r1.len, ← r2.len]; exact hz, fun p hp => Kv.lstF m k (r1.app r2) hp q⟩)
theorem qe_addF (ha : QE X B W a ta) (hb : QE X B W b tb) : QE X B W (.BinOp a .Add b pos) (aOp bAddF ta tb) := qe_op op_addA bAddF_ok ha hb
@[simp] def sSlF (x : D) (lo hi : Option Int) (M : Mem) (Q : DK) : Prop := match x with
  | .tup xs => Q (.tup (cut xs lo hi)) M
  | .str z => z.length ≤ sizeLine ∧ Q (.str (cutS z lo hi)) M
  | x => ∃ xs, LsAt M x xs ∧ Q (.lst (cut xs lo hi)) M
@[simp] def aSlF (te : AE) (tl th : AO) : AE := fun σ M Q E => te σ M (fun x M1 => tl σ M1 (fun l M2 => th σ M2 (fun u M3 => sSlF x l u M3 Q) E) E) E
theorem sSlF_ok {K : PySem.W.Frag} {G H : Hp} {M : Mem} {x : D} {v : V} {l h : Option Int} {Q : DK} {R : VK} (m : SM K G M H) (r : Rp K G x v) (q : sSlF x l h M Q) (k : ∀ v H', Kv K G Q v H' → R v H') : rSlAll K v l h H R := (by exact HA.Wq.get : @HA.Wq (rSlAll K v l h H R) (by
  unfold sSlF at q
  split at q
  · exact sSl_ok (x := .tup _) m r q k
  · exact sSl_ok (x := .str _) m r q k
  · obtain ⟨xs, h1, h2⟩ := q
    refine lsAt m r h1 fun a vs e p t => ?_
    exact .inr ⟨a, vs, e, p, fun p hp => Kv.lstF m k (cut_rp t l h) hp h2⟩))
theorem qe_sliceF (he : QE X B W e te) (hl : QO X B W lo tl) (hu : QO X B W hi th) : QE X B W (.Subscript e (.Slice lo hi none p2) pos) (aSlF te tl th) :=
  pe_imp (pe_slice sl_all he hl hu) fun s H R ⟨G, σ, M, Q, E, ss, h, k, kx⟩ => by
    refine ⟨G, σ, M, _, E, ss, h, fun v H1 ⟨x, M1, G1, e1, m1, r1, q1⟩ => ?_, kx⟩
    refine ⟨G1, σ, M1, _, E, ss.with e1 m1, q1, fun l H2 M2 G2 e2 m2 q2 => ?_, kx⟩
    refine ⟨G2, σ, M2, _, E, (ss.with e1 m1).with e2 m2, q2, fun u H3 M3 G3 e3 m3 q3 => ?_, kx⟩
    exact sSlF_ok m3 ((r1.up e2).up e3) q3 fun v H' kv => k v H' (kv.lift (e1.trans (e2.trans e3)))
@[simp] def aRevF (te : AE) : AE := fun σ M Q E => te σ M (fun x M1 => match x with
  | .tup xs => Q (.tup xs.reverse) M1
  | x => ∃ xs, LsAt M1 x xs ∧ Q (.lst xs.reverse) M1) E
theorem qe_revF {j : Nat} {p1 q1 p3 : Pos} (he : QE X B W e te) : QE X B W (.Subscript e (.Slice none none (some (.UnaryOp .USub (.Constant (.int 1) j p1) q1)) p3) pos) (aRevF te) :=
  pe_imp (pe_revB he) fun s H R ⟨G, σ, M, Q, E, ss, h, k, kx⟩ => ⟨G, σ, M, _, E, ss, h, fun v H1 ⟨x, M1, G1, e1, m1, r1, q⟩ => by
    dsimp only at q
    split at q
    · obtain ⟨a, vs, rfl, p, t⟩ := rp_tup r1
      exact .inl ⟨a, vs, rfl, same_sqt m1.same p, fun p hp => Kv.tup m1 (fun v H' kv => k v H' (kv.lift e1)) t.reverse hp q⟩
    · obtain ⟨xs, h1, h2⟩ := q
      refine lsAt m1 r1 h1 fun a vs e p t => ?_
      exact .inr ⟨a, vs, e, p, fun p hp => Kv.lstF m1 (fun v H' kv => k v H' (kv.lift e1)) t.reverse hp h2⟩, kx⟩
@[simp] def cListF : AC := fun xs M Q => match xs with
  | [.tup ys] => Q (.lst ys) M
  | [x] => ∃ ys, LsAt M x ys ∧ Q (.lst ys) M
  | _ => False
theorem ct_listF : CallT X "list" cListF := ⟨_, call_list_of, fun G M H xs vs Q R m r h k => by
  unfold cListF at h
  split at h
  · obtain ⟨v, rfl, rv⟩ := rpa1 r
    obtain ⟨a, ws, rfl, p, t⟩ := rp_tup rv
    exact ⟨a, ws, rfl, .inr (same_sqt m.same p), fun l hl => Kv.lstF m k t hl h⟩
  · obtain ⟨v, rfl, rv⟩ := rpa1 r
    obtain ⟨ys, h1, h2⟩ := h
    refine lsAt m rv h1 fun a ws e p t => ?_
    subst e
    exact ⟨a, ws, rfl, .inl p, fun l hl => Kv.lstF m k t hl h2⟩
  · exact h.elim⟩

/-! ### comprehensions, frozen -/
def aLcF (ti : AI) (g : AG) (tt : AT) (te : AE) (vs : List Nat) : AE := fun σ M Q E => ti σ M (fun xs st M1 => (∀ M', MLe M1 M' → st M') ∧ xs.length ≤ sizeLine ∧ ∃ R : Nat → List D → Prop, R 0 [] ∧
  (∀ i x acc M', xs[i]? = some x → acc.length ≤ i → R i acc → MLe M1 M' → g x (wipeA σ vs) M' (fun σ2 M2 => tt σ2 M2 (fun b M3 =>
    (b = true → te σ2 M3 (fun y M4 => M4 = M' ∧ R (i + 1) (acc ++ [y])) EF) ∧ (b = false → M3 = M' ∧ R (i + 1) acc)) EF) EF) ∧ ∀ acc, R xs.length acc → Q (.lst acc) M1) E
theorem lift_lcF {K : PySem.W.Frag} {g : AG} {vs ws : List Nat} (hv : ∀ j, j ∈ ws → j ∈ vs) {s : L2.St} {H : Hp} {R : VK} (h : LE K B W (aLcF ti g tt te vs) s H R) : tLc (LI K B W ti) (LG K B W0 ws g) (LT K B W0 tt) (LE K B W0 te) vs s H R := (by exact HA.Wq.get : @HA.Wq (tLc (LI K B W ti) (LG K B W0 ws g) (LT K B W0 tt) (LE K B W0 te) vs s H R) (by
  obtain ⟨G, σ, M, Q, E, ss, h, k, kx⟩ := h
  refine ⟨G, σ, M, _, E, ss, h, fun J H1 xs stl M1 G1 e1 m1 ok q p hp => ?_, kx⟩
  obtain ⟨hst, hz, Rv, v0, turn, fin⟩ := q
  obtain ⟨g0, f0⟩ := m1.free hp
  have k0 : ∀ c d s' H', Wx K B EF c d s' H' → W0 c d s' H' := fun c d s' H' ⟨_, _, _, _, _, _, _, _, _, _, _, _, z⟩ => z
  refine ⟨fun i m H => m = xs.length - i ∧ i ≤ xs.length ∧ ∃ G' acc, acc.length ≤ i ∧ Same G1 G' ∧ SM K G' (mset M1 p (.lst acc)) H ∧ Rv i acc, ⟨xs.length, rfl, Nat.zero_le _, G1, [], Nat.le_refl _, Same.refl _, m1.new (c := .lst []) hp ⟨[], .nil, upd_same⟩, v0⟩, ?_⟩
  rintro i m H2 ⟨rfl, hi, G2, acc, la, e2, m2, v2⟩
  have hM : MLe M1 (mset M1 p (.lst acc)) := .new f0
  by_cases hlt : i < xs.length
  · obtain ⟨x, hx⟩ := get_lt hlt
    have q2 := turn i x acc _ hx la v2 hM
    refine .inr ⟨ok.go i G2 _ H2 hlt e2 m2 (hst _ hM), fun H3 => ∃ G' acc, acc.length ≤ i + 1 ∧ Same G1 G' ∧ SM K G' (mset M1 p (.lst acc)) H3 ∧ Rv (i + 1) acc, fun H3 ⟨G3, acc, la, e3, m3, v3⟩ => ⟨xs.length - (i + 1), by omega, rfl, hlt, G3, acc, la, e3, m3, v3⟩, fun y H3 hy => ?_⟩
    obtain ⟨d, G3, hd, e3, m3, r3⟩ := ok.yld i G2 _ H2 y H3 hlt e2 m2 (hst _ hM) hy
    rw [hx] at hd
    cases hd
    have e13 := e2.trans e3
    refine ⟨G3, wipeA σ vs, _, x, _, EF, (ss.with (e1.trans e13) m3).wipe vs, r3, q2, fun s4 H4 σ4 M4 G4 e4 ss4 kp q4 => ⟨?_, G4, σ4, M4, _, EF, ss4, q4, fun b H5 M5 G5 e5 m5 q5 => ?_, k0⟩, k0⟩
    · have w2 : L2.wipe (L2.wipe s vs) vs = L2.wipe s vs := wipe_cong (wipe_length _ _) fun j hj => wipe_get hj
      rw [← w2]
      refine wipe_cong kp.1 fun j hj => kp.2 j fun z => hj (hv j z)
    · have e45 := e4.trans e5
      cases b with
      | true =>
        refine iteT ⟨G5, σ4, M5, _, EF, ss4.with e5 m5, q5.1 rfl, fun yv H6 ⟨yd, M6, G6, e6, m6, r6, eM, v6⟩ => ?_, k0⟩
        subst eM
        obtain ⟨ws, t, eH⟩ := cellL m6 (p := p) (xs := acc) mset_same
        have mw := m6.write (a := p) (c := .lst (acc ++ [yd])) (c' := .lst acc) mset_same ⟨_, t.app (.cons r6 .nil), upd_same⟩
        rw [mset_mset] at mw
        exact ⟨ws, eH, by rw [← t.len]; omega, G6, acc ++ [yd], by simp; omega, e13.trans (e45.trans e6), mw, v6⟩
      | false =>
        obtain ⟨eM, v5⟩ := q5.2 rfl
        subst eM
        exact iteF ⟨G5, acc, by omega, e13.trans e45, m5, v5⟩
  · have : i = xs.length := by omega
    subst this
    refine .inl ⟨ok.stop _ G2 _ H2 (Nat.le_refl _) e2 m2 (hst _ hM), k _ _ ?_⟩
    refine Kv.gh ⟨.ref p, _, G2, e1.trans e2, m2, .ref p, .lst acc, M1, .lst hM f0 mset_same, fin acc v2⟩))
theorem qe_lcF {elt iter : Expr} {ifs : List Expr} {scope : Scope} {own : List (Str × Nat)} {ws : List Nat} {g : AG} (hc : X.calm = true) (hN : X.N.Nodup) (hi : QI X B W tg iter ti) (ok : BlkOk X.N X.env.scope scope own) (hv : ∀ j, j ∈ ws → j ∈ own.map (·.2))
    (hg : Blk X scope fun Y => QG Y B W0 ws tg g) (ht : Blk X scope fun Y => QTs Y B W0 ifs tt) (he : Blk X scope fun Y => QE Y B W0 elt te) (hs : ∀ x, foldedSetIterable iter X.env x = pure x := by intro _; rfl) :
    QE X B W (.ListComp elt [⟨tg, iter, ifs, 0⟩] scope pos) (aLcF ti g tt te (own.map (·.2))) :=
  pe_imp (pe_lc hc hN hi ok hg ht he hs) fun s H R h => lift_lcF hv h
theorem qs_setLcF {elt iter : Expr} {ifs : List Expr} {scope : Scope} {own : List (Str × Nat)} {ws : List Nat} {g : AG} {y : Str} {py spos : Pos} (j : Nat) (hc : X.calm = true) (hN : X.N.Nodup) (hi : QI X B W tg iter ti) (ok : BlkOk X.N X.env.scope scope own) (hv : ∀ j, j ∈ ws → j ∈ own.map (·.2))
    (hg : Blk X scope fun Y => QG Y B W0 ws tg g) (ht : Blk X scope fun Y => QTs Y B W0 ifs tt) (he : Blk X scope fun Y => QE Y B W0 elt te) (hy : X.N[j]? = some y := by rfl) (hyl : X.env.scope.names.lookup y = some .local := by rfl)
    (hsw : swapsWith (.ListComp elt [⟨tg, iter, ifs, 0⟩] scope pos) (some (.Name y py)) spos.line X.env = pure true := by exact sw_true rfl rfl rfl (by decide +kernel)) (hs : ∀ x, foldedSetIterable iter X.env x = pure x := by intro _; rfl) :
    QS X B W (.Assign [.Name y py] (.ListComp elt [⟨tg, iter, ifs, 0⟩] scope pos) spos) (aAsg (aLcF ti g tt te (own.map (·.2))) (agName j)) :=
  ps_imp (ps_setLc hc hN hy hyl hsw hi ok hg ht he hs) fun Dc s H ⟨G, σ, M, D, ss, h, kn, kr, kb, kc, kx⟩ =>
    lift_lcF hv ⟨G, σ, M, _, D.xx, ss, h, fun v H1 ⟨x, M1, G1, e1, m1, r1, q1⟩ => kn _ H1 _ M1 G1 e1 ((ss.with e1 m1).set j r1) q1, kx⟩
end

/-! ### a def's exits -/
/-- d, told where the memory is M again -/
@[simp] def fzD (M M' : Mem) (d : D) (k : D → Prop) : Prop := match d with
  | .ref p => ∃ xs, M p = none ∧ MLe M M' ∧ M' p = some (.lst xs) ∧ k (.lst xs)
  | d => MLe M M' ∧ k d
theorem fzD_gh {M M' : Mem} {d : D} {Q : DK} (h : fzD M M' d fun d' => Q d' M) : ∃ d' M2, Gh M2 d M' d' ∧ Q d' M2 := (by exact HA.Wq.get : @HA.Wq (∃ d' M2, Gh M2 d M' d' ∧ Q d' M2) (by
  unfold fzD at h
  split at h
  · obtain ⟨xs, h1, h2, h3, h4⟩ := h
    exact ⟨_, M, .lst h2 h1 h3, h4⟩
  · exact ⟨_, M, .drop h.1 _, h.2⟩))
section
variable {P : Program} {w : World} {K : PySem.W.Frag} {mg : Str → Option Value} {base : Heap} {k : Nat} {f : Addr} {fd : FuncData} {ps : List Str} {sp sp' : ASp}
/-- another promise, by what lies there at the entry -/
theorem FA.imp2 (F : FA P w K mg base k f fd ps sp) (h : ∀ G H ds M Q E, SM K G M H → sp' ds M Q E → ∃ M1 Q1 E1, SM K G M1 H ∧ sp ds M1 Q1 E1 ∧ (∀ v H', Kv K G Q1 v H' → Kv K G Q v H') ∧ ∀ c d H', Kx K G E1 c d H' → Kx K G E c d H')
    (hl : ∀ ds M Q E, sp' ds M Q E → ds.length = ps.length) : FA P w K mg base k f fd ps sp' :=
  ⟨hl, fun A outer s H args us vs ds G M Q E hr hg he hb hv m r q => by
    obtain ⟨M1, Q1, E1, m1, q1, kq, kx⟩ := h G H ds M Q E m q
    refine codeAny_mono (F.run A outer s H args us vs ds G M1 Q1 E1 hr hg he hb hv m1 r q1) fun z s' hz => ?_
    cases z with
    | error e =>
      obtain ⟨H', a1, a2, a3, a4, cls, d, b1, b2, b3, b4, b5, b6⟩ := hz
      exact ⟨H', a1, a2, a3, a4, cls, d, b1, b2, b3, b4, b5, kx _ _ _ b6⟩
    | ok fl =>
      cases fl with
      | ret u => obtain ⟨v, H', os, bare, un, ok', r', q⟩ := hz; exact ⟨v, H', os, bare, un, ok', r', kq _ _ q⟩
      | next => exact hz
      | brk => exact hz
      | cont => exact hz⟩
end
end HA
/-! A12: defs that leave the memory as it was; drawn deals; loops over ranges and lists. -/
namespace HA
open PySem PySem.Spec L2
section
variable {P : Program} {w : World} {K : PySem.W.Frag} {mg : Str → Option Value} {base : Heap} {x qual : Str} {st : Stmt} {f : Addr} {fd : FuncData} {N ps : List Str} {k : Nat} {sp sp' : ASp} {t : ASt}
theorem Kx.drop {G H : Hp} {M : Mem} {E : AX} {c : Value} {d : Option Addr} (h : Kx K G (fun C fs M' => ∃ M2, MLe M2 M' ∧ E C fs M2) c d H) : Kx K G E c d H := by
  obtain ⟨C, fs, a, vs, M', G', e1, e2, e3, m, h1, h2, M2, hl, q⟩ := h
  exact ⟨C, fs, a, vs, M2, G', e1, e2, e3, m.drop hl, h1, h2, q⟩
/-- the derivation of a def's body, in its context -/
def DefC (P : Program) (w : World) (K : PySem.W.Frag) (mg : Str → Option Value) (base : Heap) (N : List Str) (qual : Str) (st : Stmt) (f : Addr) (k : Nat) (cdv : Value) (t : ASt) : Prop :=
  ∀ A outer s H E B W, Room k (BX P w K mg base N qual st f cdv A outer s H E).A → (BX P w K mg base N qual st f cdv A outer s H E).A.guards = some [] → Takes (BX P w K mg base N qual st f cdv A outer s H E) W → PassesOwn (model P w) (BX P w K mg base N qual st f cdv A outer s H E).A (BX P w K mg base N qual st f cdv A outer s H E).env (BX P w K mg base N qual st f cdv A outer s H E).xe → QSs (BX P w K mg base N qual st f cdv A outer s H E) B W (defBody st) t
def DefD (P : Program) (w : World) (K : PySem.W.Frag) (mg : Str → Option Value) (base : Heap) (N : List Str) (qual : Str) (st : Stmt) (f : Addr) (k : Nat) (t : ASt) : Prop := ∀ cdv, DefC P w K mg base N qual st f k cdv t
/-- what is wanted at the exits of a def that leaves the memory as it was -/
def pureE (M : Mem) (Q : DK) (E : AX) : AEn := { nx := fun _ M' => MLe M M' ∧ Q .non M, rt := fun d M' => fzD M M' d fun d' => Q d' M, xx := fun _ C fs M' => MLe M M' ∧ E C fs M }
/-- .. of any def -/
def anyE (Q : DK) (E : AX) : AEn := { nx := fun _ M' => ∃ M2, MLe M2 M' ∧ Q .non M2, rt := fun d M' => ∃ M2, MLe M2 M' ∧ Q d M2, xx := fun _ C fs M' => ∃ M2, MLe M2 M' ∧ E C fs M2 }
/-- a def's promise by its body: the exits weakened -/
theorem fa_ghC (F : Fun K x qual st f fd) (S : FnScope N ps (defScope st)) (len : ∀ ds M Q E, sp ds M Q E → ds.length = ps.length) (hb : ∀ cdv, fd.code = cdv → DefC P w K mg base N qual st f k cdv t)
    (h : ∀ ds M Q E, sp ds M Q E → ∃ D : AEn, t D (startA N ds) M ∧ (∀ σ M', D.nx σ M' → ∃ d' M2, Gh M2 .non M' d' ∧ Q d' M2) ∧ (∀ d M', D.rt d M' → ∃ d' M2, Gh M2 d M' d' ∧ Q d' M2) ∧ (∀ σ M', ¬ D.bk σ M') ∧ (∀ σ M', ¬ D.ct σ M') ∧ ∀ σ C fs M', D.xx σ C fs M' → ∃ M2, MLe M2 M' ∧ E C fs M2) : FA P w K mg base (k + 1) f fd ps sp := (by exact HA.Wq.get : @HA.Wq (FA P w K mg base (k + 1) f fd ps sp) (by
  obtain ⟨oc, od, kV, doc, pm, an, cdv, ct, osl, rfl, lk, hcd⟩ := F.ex
  refine ⟨len, fun A outer s H args us vs ds G M Q E hr hg e0 hbd r m rp hs => ?_⟩
  have hl : vs.length = ps.length := by rw [← rp.len]; exact len _ _ _ _ hs
  have inK : K.In s.heap := e0.mod.kin.keeps fun b o z => (e0.bs b o z).1
  have nol : s.heap.NoLimit := e0.mod.nolimit.keeps fun b o z => (e0.bs b o z).1
  have kinds : ∀ y ∈ ps.zip us, (defScope st).names.lookup y.1 = some .local ∨ ((defScope st).names.lookup y.1 = some .cell ∧ ((cellsFrom (s.heap.objs.size + 1) (defScope st).names []).lookup y.1).isSome = true) := by
    rintro ⟨y, v⟩ hy
    exact (S.par y (List.of_mem_zip hy).1).imp id fun z => ⟨z, PySem.W.cellsFrom_some _ _ _ (.inl z)⟩
  refine codeAny_call_function hr.depth (inK _ _ lk) rfl S.co S.gen rfl (PySem.W.codeRec_of inK hcd) (hbd _ _ _ _ (wpAny_newFunctionEnv_cells S.kind kinds fun env ee s1 xx => ?_))
  subst ee
  refine ⟨nol.keeps xx.toInCall.keep, codeAny_func ?_⟩
  have I := inv_start (CX := L2.CX P w) (P := P) (w := w) (K := K) (mg := mg) (base := base) (cd := cdv) (E := Kx K G E) S hr.hd e0 hl r xx
  have tk := takes_of (X := BX P w K mg base N qual st f cdv A outer s H (Kx K G E)) (E := Kx K G E) rfl rfl rfl rfl
  have qb := hb cdv rfl A outer s H (Kx K G E) G _ (hr.deeper _) hg tk (passes_of rfl)
  have e0l : (startA N ds).length = (L2.start N vs).length := by simp [startA, L2.start, rp.len]
  have ss : SS K G G (startA N ds) M (L2.start N vs) H := ⟨Same.refl G, m, e0l, fun i d hd => by
    unfold startA at hd
    unfold L2.start
    by_cases hi : i < ds.length
    · rw [List.getElem?_append_left (by simpa using hi), List.getElem?_map] at hd
      cases z : ds[i]? with
      | none => rw [z] at hd; cases hd
      | some y =>
        rw [z] at hd
        cases hd
        obtain ⟨v, h1, h2⟩ := rp.get z
        exact ⟨v, by rw [List.getElem?_append_left (by simp; rw [← rp.len]; exact hi), List.getElem?_map, h1]; rfl, h2⟩
    · rw [List.getElem?_append_right (by simpa using hi), List.getElem?_replicate] at hd
      split at hd <;> cases hd⟩
  have fin : ∀ {σ' : L2.St} {H' : Hp} {s' : Shared} {v : V} {u : Value}, Inv (BX P w K mg base N qual st f cdv A outer s H (Kx K G E)) [] σ' H' s' → RelV v u → Kv K G Q v H' → CE outer P w H s (Kv K G Q) u s' := fun J rv q => ⟨_, _, J.os, J.bare, J.base, J.hok, rv, q⟩
  obtain ⟨D, hD, kn, kr, kb, kc, kx⟩ := h ds M Q E hs
  refine wpAny_mono (qb.run [] s1 (L2.start N vs) H { nx := fun _ H' => Kv K G Q .non H', rt := Kv K G Q } I ⟨G, _, M, D, ss, hD, fun s' H' σ' M' G' e' ss' q => Kv.gh ⟨.non, M', G', e', ss'.mem, .non, kn σ' M' q⟩, fun v H' ⟨d, M', G', e, m, r, q⟩ => Kv.gh ⟨d, M', G', e, m, r, kr d M' q⟩, fun _ _ σ' M' _ _ _ z => kb σ' M' z, fun _ _ σ' M' _ _ _ z => kc σ' M' z, fun c d s' H' ⟨C, fs, a, vs, σ, M', G', e1, e2, s5, h1, h2, q⟩ => Kx.drop (M := M') ⟨C, fs, a, vs, M', G', e1, e2, s5.base, s5.mem, h1, h2, kx σ C fs M' q⟩⟩)
    (fun fl s' hs' => ?_) fun e s' hs' => hs'
  cases fl with
  | ret u => obtain ⟨v, σ', H', J, rv, q⟩ := hs'; exact fin J rv q
  | next => obtain ⟨σ', H', J, q⟩ := hs'; exact fin (v := .non) (u := .none) J rfl q
  | brk => obtain ⟨_, _, _, z⟩ := hs'; exact z.elim
  | cont => obtain ⟨_, _, _, z⟩ := hs'; exact z.elim))

theorem fa_gh (F : Fun K x qual st f fd) (S : FnScope N ps (defScope st)) (len : ∀ ds M Q E, sp ds M Q E → ds.length = ps.length) (hb : DefD P w K mg base N qual st f k t)
    (h : ∀ ds M Q E, sp ds M Q E → ∃ D : AEn, t D (startA N ds) M ∧ (∀ σ M', D.nx σ M' → ∃ d' M2, Gh M2 .non M' d' ∧ Q d' M2) ∧ (∀ d M', D.rt d M' → ∃ d' M2, Gh M2 d M' d' ∧ Q d' M2) ∧ (∀ σ M', ¬ D.bk σ M') ∧ (∀ σ M', ¬ D.ct σ M') ∧ ∀ σ C fs M', D.xx σ C fs M' → ∃ M2, MLe M2 M' ∧ E C fs M2) : FA P w K mg base (k + 1) f fd ps sp := fa_ghC F S len (fun cdv _ => hb cdv) h
theorem fa_pureC (F : Fun K x qual st f fd) (S : FnScope N ps (defScope st)) (len : ∀ ds M Q E, sp ds M Q E → ds.length = ps.length) (hb : ∀ cdv, fd.code = cdv → DefC P w K mg base N qual st f k cdv t)
    (h : ∀ ds M Q E, sp ds M Q E → t (pureE M Q E) (startA N ds) M) : FA P w K mg base (k + 1) f fd ps sp :=
  fa_ghC F S len hb fun ds M Q E q => ⟨_, h ds M Q E q, fun σ M' z => ⟨_, M, .drop z.1 _, z.2⟩, fun d M' z => fzD_gh z, fun _ _ z => z, fun _ _ z => z, fun σ C fs M' z => ⟨M, z⟩⟩
theorem fa_anyC (F : Fun K x qual st f fd) (S : FnScope N ps (defScope st)) (len : ∀ ds M Q E, sp ds M Q E → ds.length = ps.length) (hb : ∀ cdv, fd.code = cdv → DefC P w K mg base N qual st f k cdv t)
    (h : ∀ ds M Q E, sp ds M Q E → t (anyE Q E) (startA N ds) M) : FA P w K mg base (k + 1) f fd ps sp :=
  fa_ghC F S len hb fun ds M Q E q => ⟨_, h ds M Q E q, fun σ M' ⟨M2, l, z⟩ => ⟨_, M2, .drop l _, z⟩, fun d M' ⟨M2, l, z⟩ => ⟨_, M2, .drop l _, z⟩, fun _ _ z => z, fun _ _ z => z, fun σ C fs M' z => z⟩
theorem fa_pure (F : Fun K x qual st f fd) (S : FnScope N ps (defScope st)) (len : ∀ ds M Q E, sp ds M Q E → ds.length = ps.length) (hb : DefD P w K mg base N qual st f k t)
    (h : ∀ ds M Q E, sp ds M Q E → t (pureE M Q E) (startA N ds) M) : FA P w K mg base (k + 1) f fd ps sp := fa_pureC F S len (fun cdv _ => hb cdv) h
theorem fa_any (F : Fun K x qual st f fd) (S : FnScope N ps (defScope st)) (len : ∀ ds M Q E, sp ds M Q E → ds.length = ps.length) (hb : DefD P w K mg base N qual st f k t)
    (h : ∀ ds M Q E, sp ds M Q E → t (anyE Q E) (startA N ds) M) : FA P w K mg base (k + 1) f fd ps sp := fa_anyC F S len (fun cdv _ => hb cdv) h

/-! ### drawn deals -/
/-- numbers of a pool -/
def PoolOk (ns : List Int) : Prop := ns.length ≤ 63 ∧ ∀ n ∈ ns, 0 ≤ n ∧ n.natAbs < 2 ^ big
/-- the deal a and its pool l, opened -/
def opn (M : Mem) (a l : Addr) (n : Int) (ns : List Int) : Mem := mset (mset M a (.lst [.ref l, .int n])) l (.lst (ns.map D.int))
def spAnyT : ASp := fun ds M Q _ => ∃ a l n m ns, ds = [.ref a, .int m] ∧ a ≠ l ∧ M a = some (.lst [.ref l, .int n]) ∧ M l = some (.lst (ns.map D.int)) ∧ PoolOk ns ∧ (0 ≤ n ∧ n < 2147483647) ∧ (0 < m ∧ m.natAbs < 2 ^ 9000) ∧
  ∀ r n' ns' M', 0 ≤ r → r < m → PoolOk ns' → 0 ≤ n' → n' < 2147483647 → MLe (opn M a l n' ns') M' → Q (.int r) M'
/-- a deal -/
def Deal (M : Mem) (x : D) : Prop := match x with
  | .ref a => ∃ l, a ≠ l ∧ M a = some (.deal l) ∧ M l = some .pool
  | _ => False
theorem Deal.up {M M' : Mem} {x : D} (h : Deal M x) (e : MLe M M') : Deal M' x := by
  match x, h with
  | .ref a, ⟨l, h0, h1, h2⟩ => exact ⟨l, h0, e _ _ h1, e _ _ h2⟩
def spAny : ASp := fun ds M Q _ => ∃ x m, ds = [x, .int m] ∧ Deal M x ∧ (0 < m ∧ m.natAbs < 2 ^ 9000) ∧ ∀ r, 0 ≤ r → r < m → Q (.int r) M
theorem SM.retype {K : PySem.W.Frag} {G H : Hp} {M : Mem} {a : Addr} {c c' : Cell} (m : SM K G M H) (h : M a = some c') (k : COk K G H a c) : SM K G (mset M a c) H := ⟨m.same, fun b d e => by
  by_cases hb : b = a
  · subst hb; rw [mset_same] at e; cases e; exact ⟨(m.cell _ _ h).1, k⟩
  · rw [mset_ne hb] at e; exact m.cell b d e⟩
theorem SM.opened {K : PySem.W.Frag} {G H : Hp} {M : Mem} {a l : Addr} (m : SM K G M H) (hal : a ≠ l) (ha : M a = some (.deal l)) (hl : M l = some .pool) : ∃ n ns, (0 ≤ n ∧ n < 2147483647) ∧ PoolOk ns ∧ SM K G (opn M a l n ns) H := (by exact HA.Wq.get : @HA.Wq (∃ n ns, (0 ≤ n ∧ n < 2147483647) ∧ PoolOk ns ∧ SM K G (opn M a l n ns) H) (by
  obtain ⟨_, n, hn, ea⟩ := m.cell a _ ha
  obtain ⟨_, ns, h1, h2, el⟩ := m.cell l _ hl
  have m1 := m.retype (c := .lst [.ref l, .int n]) ha ⟨_, .cons (.ref l) (.cons (.int n) .nil), ea⟩
  have hl' : mset M a (.lst [.ref l, .int n]) l = some .pool := by rw [mset_ne (Ne.symm hal)]; exact hl
  exact ⟨n, ns, hn, ⟨h1, h2⟩, m1.retype (c := .lst (ns.map D.int)) hl' ⟨_, .ints ns, el⟩⟩))
theorem SM.shut {K : PySem.W.Frag} {G H : Hp} {M M' : Mem} {a l : Addr} {n : Int} {ns : List Int} (hal : a ≠ l) (ha : M a = some (.deal l)) (hl : M l = some .pool) (hn : 0 ≤ n ∧ n < 2147483647) (hp : PoolOk ns) (m : SM K G M' H) (e : MLe (opn M a l n ns) M') : SM K G M H := ⟨m.same, fun b c hb => by
  have oa : opn M a l n ns a = some (.lst [.ref l, .int n]) := by unfold opn; rw [mset_ne hal, mset_same]
  have ol : opn M a l n ns l = some (.lst (ns.map D.int)) := by unfold opn; rw [mset_same]
  by_cases h1 : b = a
  · subst h1
    obtain ⟨g0, vs, r, eH⟩ := m.cell b _ (e _ _ oa)
    rw [ha] at hb
    cases hb
    obtain ⟨v, w, rfl, r1, r2⟩ := rpa2 r
    cases r1; cases r2
    exact ⟨g0, n, hn, eH⟩
  · by_cases h2 : b = l
    · subst h2
      obtain ⟨g0, vs, r, eH⟩ := m.cell b _ (e _ _ ol)
      rw [hl] at hb
      cases hb
      have := r.of_ints
      subst this
      exact ⟨g0, ns, hp.1, hp.2, eH⟩
    · refine m.cell b c (e _ _ ?_)
      unfold opn
      rw [mset_ne h2, mset_ne h1]; exact hb⟩
theorem fa_draw (F : FA P w K mg base k f fd ps spAnyT) : FA P w K mg base k f fd ps spAny := F.imp2 (fun G H ds M Q E m ⟨x, m', h1, h2, h3, h4⟩ => by
    subst h1
    match x, h2 with
    | .ref a, ⟨l, hal, ha, hl⟩ =>
      obtain ⟨n, ns, hn, hp, mo⟩ := m.opened hal ha hl
      refine ⟨_, fun v M' => ∃ r n' ns', v = .int r ∧ 0 ≤ r ∧ r < m' ∧ PoolOk ns' ∧ (0 ≤ n' ∧ n' < 2147483647) ∧ MLe (HA.opn M a l n' ns') M', E, mo, ⟨a, l, n, m', ns, rfl, hal, ?_, ?_, hp, hn, h3, fun r n' ns' M' h5 h6 h7 h8 h9 h10 => ⟨r, n', ns', rfl, h5, h6, h7, ⟨h8, h9⟩, ?_⟩⟩, fun v H' kv => ?_, fun _ _ _ z => z⟩
      · unfold HA.opn; rw [mset_ne hal, mset_same]
      · unfold HA.opn; rw [mset_same]
      · have : HA.opn (HA.opn M a l n ns) a l n' ns' = HA.opn M a l n' ns' := by
          unfold HA.opn
          rw [mset_comm (Ne.symm hal) (M := mset M a _), mset_mset, mset_mset]
        rwa [this] at h10
      · obtain ⟨d, M', G', e, m2, rp, r, n', ns', rfl, h5, h6, h7, h8, h9⟩ := kv
        exact ⟨.int r, M, G', e, SM.shut hal ha hl h8 h7 m2 h9, rp, h4 r h5 h6⟩) fun ds M Q E ⟨x, m', h1, h2, h3, h4⟩ => by
    match x, h2 with
    | .ref a, ⟨l, hal, ha, hl⟩ => exact F.len ds (HA.opn M a l 0 []) (fun _ _ => True) E ⟨a, l, 0, m', [], h1, hal, by unfold HA.opn; rw [mset_ne hal, mset_same], by unfold HA.opn; rw [mset_same], ⟨by simp, by simp⟩, ⟨by decide, by decide⟩, h3, fun _ _ _ _ _ _ _ _ _ _ => trivial⟩
/-- a deal is made of a script and a number -/
def spSrcT : ASp := fun ds M Q _ => ∃ (ns : List Int) (b : Int), ds = [.frz (ns.map D.int), .int b] ∧ ns.length ≤ 63 ∧ (∀ z ∈ ns, z.natAbs < 2 ^ big) ∧ (0 ≤ b ∧ b < 1000) ∧
  ∀ a l n ns' M', a ≠ l → M a = none → M l = none → MLe M M' → M' a = some (.lst [.ref l, .int n]) → M' l = some (.lst (ns'.map D.int)) → PoolOk ns' → 0 ≤ n → n < 2147483647 → Q (.ref a) M'
def spSrc : ASp := fun ds M Q _ => ∃ (ns : List Int) (b : Int), ds = [.frz (ns.map D.int), .int b] ∧ ns.length ≤ 63 ∧ (∀ z ∈ ns, z.natAbs < 2 ^ big) ∧ (0 ≤ b ∧ b < 1000) ∧
  ∀ a M', MLe M M' → M a = none → Deal M' (.ref a) → Q (.ref a) M'
theorem fa_src (F : FA P w K mg base k f fd ps spSrcT) : FA P w K mg base k f fd ps spSrc := F.imp2 (fun G H ds M Q E m ⟨ns, b, h1, h2, h3, h4, q⟩ => by
    refine ⟨M, fun v M' => ∃ a l n ns', v = .ref a ∧ a ≠ l ∧ M a = none ∧ M l = none ∧ MLe M M' ∧ M' a = some (.lst [.ref l, .int n]) ∧ M' l = some (.lst (ns'.map D.int)) ∧ PoolOk ns' ∧ 0 ≤ n ∧ n < 2147483647, E, m, ⟨ns, b, h1, h2, h3, h4, fun a l n ns' M' z1 z2 z3 z4 z5 z6 z7 z8 z9 => ⟨a, l, n, ns', rfl, z1, z2, z3, z4, z5, z6, z7, z8, z9⟩⟩, fun v H' kv => ?_, fun _ _ _ z => z⟩
    obtain ⟨d, M', G', e, m2, rp, a, l, n, ns', rfl, z1, z2, z3, z4, z5, z6, z7, z8, z9⟩ := kv
    obtain ⟨_, vs, r, eH⟩ := m2.cell a _ z5
    obtain ⟨v1, v2, rfl, r1, r2⟩ := rpa2 r
    cases r1; cases r2
    obtain ⟨_, ws, rw', eL⟩ := m2.cell l _ z6
    have := rw'.of_ints
    subst this
    have m3 := m2.retype (c := .deal l) z5 ⟨n, ⟨z8, z9⟩, eH⟩
    have z6' : mset M' a (.deal l) l = some (.lst (ns'.map D.int)) := by rw [mset_ne (Ne.symm z1)]; exact z6
    have m4 := m3.retype (c := .pool) z6' ⟨ns', z7.1, z7.2, eL⟩
    refine ⟨.ref a, _, G', e, m4, rp, q a _ (fun b c hb => ?_) z2 ⟨l, z1, by rw [mset_ne z1, mset_same], mset_same⟩⟩
    have n1 : b ≠ l := none_ne z3 hb
    have n2 : b ≠ a := none_ne z2 hb
    rw [mset_ne n1, mset_ne n2]; exact z4 _ _ hb) fun ds M Q E ⟨ns, b, h1, h2, h3, h4, q⟩ => F.len ds M (fun _ _ => True) E ⟨ns, b, h1, h2, h3, h4, fun _ _ _ _ _ _ _ _ _ _ _ _ _ _ => trivial⟩
/-- one of some things -/
def spOf : ASp := fun ds M Q _ => ∃ x y xs, ds = [x, y] ∧ Deal M x ∧ (y = .tup xs ∨ y = .lst xs ∨ ∃ a, y = .ref a ∧ M a = some (.lst xs)) ∧ xs ≠ [] ∧ xs.length < 1000000 ∧ ∀ d ∈ xs, Q d M
end
end HA
/-! A13: what may be shown and compared; small helps. -/
namespace HA
open PySem PySem.Spec L2
/-! ### shown -/
structure Sh (d : PyData) (n k : Nat) : Prop where
  sh : d.showable = true
  ln : d.shown.length ≤ n
  dp : d.depth ≤ k
  nd : d.hasDict = false
theorem Sh.ok {d : PyData} {n k : Nat} (h : Sh d n k) (hn : n ≤ 16777216) (hk : k ≤ 60) : ShowOk d := ⟨h.sh, Nat.le_trans h.ln (by rw [show sizeLine = 16777216 from by decide]; exact hn), Nat.le_trans h.dp hk, h.nd⟩
theorem Sh.mono {d : PyData} {n k n' k' : Nat} (h : Sh d n k) (hn : n ≤ n') (hk : k ≤ k') : Sh d n' k' := ⟨h.sh, Nat.le_trans h.ln hn, Nat.le_trans h.dp hk, h.nd⟩
theorem Sh.int {i : Int} (h : i.natAbs.log2 < 1920) : Sh (.int i) 1921 0 := ⟨by simpa [PyData.showable] using h, by
  have e := int_text_length_le (k := 1920) (by decide) h
  show (Str.ofString (toString i)).length ≤ 1921
  rw [ofString_length]; exact e, by simp [PyData.depth], rfl⟩
theorem log_small {i : Int} {b : Nat} (h : i.natAbs < 2 ^ b) (hb : b ≤ 1920) (h0 : 0 < b) : i.natAbs.log2 < 1920 := (by exact HA.Wq.get : @HA.Wq (i.natAbs.log2 < 1920) (by
  refine Nat.lt_of_lt_of_le ?_ hb
  by_cases hz : i.natAbs = 0
  · rw [hz]; simpa using h0
  · exact (Nat.log2_lt hz).mpr h))
theorem Sh.bl (b : Bool) : Sh (.bool b) 1921 0 := by
  cases b <;> exact ⟨rfl, by decide +kernel, by simp [PyData.depth], rfl⟩
theorem Sh.non : Sh .none 1921 0 := ⟨rfl, by decide +kernel, by simp [PyData.depth], rfl⟩
theorem Sh.str {x : Str} (h : (reprText x).length ≤ 1921) : Sh (.str x) 1921 0 := ⟨rfl, h, by simp [PyData.depth], rfl⟩
theorem sh_all {n k : Nat} : ∀ {xs : List PyData}, (∀ x ∈ xs, Sh x n k) → PyData.showableAll xs = true ∧ ((PyData.shownAll xs).map (·.length)).sum ≤ xs.length * n ∧ (PyData.shownAll xs).length = xs.length ∧ PyData.depthAll xs ≤ k ∧ PyData.hasDictAll xs = false
  | [], _ => ⟨rfl, by simp [PyData.shownAll], rfl, by simp [PyData.depthAll], rfl⟩
  | x :: r, h => by
    obtain ⟨a1, a2, a3, a4, a5⟩ := sh_all (xs := r) fun y hy => h y (List.mem_cons_of_mem _ hy)
    have hx := h x List.mem_cons_self
    refine ⟨by simp [PyData.showableAll, hx.sh, a1], ?_, by simp [PyData.shownAll, a3], ?_, by simp [PyData.hasDictAll, hx.nd, a5]⟩
    · have := hx.ln
      simp only [PyData.shownAll, List.map_cons, List.sum_cons, List.length_cons]
      rw [Nat.add_mul, Nat.one_mul]; omega
    · have := hx.dp
      simp only [PyData.depthAll]; omega
theorem Sh.lst {n k : Nat} {xs : List PyData} (h : ∀ x ∈ xs, Sh x n k) : Sh (.list xs) (xs.length * (n + 2) + 4) (k + 1) := (by exact HA.Wq.get : @HA.Wq (Sh (.list xs) (xs.length * (n + 2) + 4) (k + 1)) (by
  obtain ⟨a1, a2, a3, a4, a5⟩ := sh_all h
  refine ⟨by simpa [PyData.showable] using a1, ?_, by simp only [PyData.depth]; omega, by simpa [PyData.hasDict] using a5⟩
  have := listText_len_le (PyData.shownAll xs)
  simp only [PyData.shown]
  rw [Nat.mul_add]; omega))
theorem piled_eq (ts : List Str) : piled ts = (ts.map (·.length)).sum + 2 * ts.length := by
  induction ts with
  | nil => rfl
  | cons t r ih => rw [piled_cons, ih]; simp only [List.map_cons, List.sum_cons, List.length_cons]; omega
theorem tupleText_len_le (ts : List Str) : (tupleText ts).length ≤ (ts.map (·.length)).sum + 2 * ts.length + 4 := (by exact HA.Wq.get : @HA.Wq ((tupleText ts).length ≤ (ts.map (·.length)).sum + 2 * ts.length + 4) (by
  unfold tupleText
  rw [strLen_append, strLen_append]
  have e1 : ((("(" : String) : Str)).length = 1 := rfl
  have e3 : (((if ts.length == 1 then ",)" else ")" : String) : Str)).length ≤ 2 := by split <;> decide
  rw [e1]
  by_cases h : ts = []
  · subst h; have : (Str.join ", " ([] : List Str)).length = 0 := rfl; simp only [List.map_nil, List.sum_nil]; omega
  · have := join_length_add ts h
    rw [piled_eq] at this; omega))
theorem Sh.tup {n k : Nat} {xs : List PyData} (h : ∀ x ∈ xs, Sh x n k) : Sh (.tuple xs) (xs.length * (n + 2) + 4) (k + 1) := (by exact HA.Wq.get : @HA.Wq (Sh (.tuple xs) (xs.length * (n + 2) + 4) (k + 1)) (by
  obtain ⟨a1, a2, a3, a4, a5⟩ := sh_all h
  refine ⟨by simpa [PyData.showable] using a1, ?_, by simp only [PyData.depth]; omega, by simpa [PyData.hasDict] using a5⟩
  have := tupleText_len_le (PyData.shownAll xs)
  simp only [PyData.shown]
  rw [Nat.mul_add]; omega))
/-- ints below a bound -/
def SmallI (ns : List Int) : Prop := ∀ n ∈ ns, n.natAbs < 2 ^ 1920
theorem Sh.ints {ns : List Int} (h : SmallI ns) : ∀ x ∈ ns.map PyData.int, Sh x 1921 0 := fun x hx => by
  obtain ⟨n, hn, rfl⟩ := List.mem_map.mp hx
  exact .int (log_small (h n hn) (Nat.le_refl _) (by decide))
theorem show_tup {ns : List Int} (h : SmallI ns) (hl : ns.length ≤ 8000) : ShowOk (.tuple (ns.map .int)) := (Sh.tup (Sh.ints h)).ok (by rw [List.length_map]; omega) (by decide)
theorem show_lst {ns : List Int} (h : SmallI ns) (hl : ns.length ≤ 8000) : ShowOk (.list (ns.map .int)) := (Sh.lst (Sh.ints h)).ok (by rw [List.length_map]; omega) (by decide)
theorem show_int {i : Int} (h : i.natAbs < 2 ^ 1920) : ShowOk (.int i) := (Sh.int (log_small h (Nat.le_refl _) (by decide))).ok (by decide) (by decide)
/-! ### compared -/
mutual
theorem eqv_refl : ∀ d : PyData, d.hasDict = false → PyData.eqv d d = true
  | .none, _ => rfl
  | .bool b, _ => by simp [PyData.eqv]
  | .int i, _ => by simp [PyData.eqv]
  | .str x, _ => by simp [PyData.eqv]
  | .list xs, h => by simp only [PyData.eqv]; exact eqvAll_refl xs (by simpa [PyData.hasDict] using h)
  | .tuple xs, h => by simp only [PyData.eqv]; exact eqvAll_refl xs (by simpa [PyData.hasDict] using h)
  | .dict kvs, h => by simp [PyData.hasDict] at h
theorem eqvAll_refl : ∀ ds : List PyData, PyData.hasDictAll ds = false → PyData.eqvAll ds ds = true
  | [], _ => rfl
  | x :: r, h => by
    simp only [PyData.hasDictAll, Bool.or_eq_false_iff] at h
    simp only [PyData.eqvAll, eqv_refl x h.1, eqvAll_refl r h.2, Bool.and_self]
end
theorem eqv_ints : ∀ {xs ys : List Int}, PyData.eqvAll (xs.map .int) (ys.map .int) = decide (xs = ys)
  | [], [] => rfl
  | [], y :: ys => by simp [PyData.eqvAll]
  | x :: xs, [] => by simp [PyData.eqvAll]
  | x :: xs, y :: ys => by
    simp only [List.map_cons, PyData.eqvAll, PyData.eqv, eqv_ints (xs := xs) (ys := ys)]
    by_cases h : x = y <;> by_cases h2 : xs = ys <;> simp [h, h2]
theorem canLay_ints : ∀ ns : List Int, PyData.canLayAll0 (ns.map .int) = true
  | [] => rfl
  | n :: r => by simp [PyData.canLayAll0, PyData.canLay0, canLay_ints r]
theorem depth_ints : ∀ ns : List Int, PyData.depthAll (ns.map .int) = 0
  | [] => by simp [PyData.depthAll]
  | n :: r => by simp [PyData.depthAll, PyData.depth, depth_ints r]
theorem shaped_tup (ns : List Int) : SeqAt.shaped (.tuple (ns.map .int)) = true := by
  simp [SeqAt.shaped, PyData.canLay0, canLay_ints, PyData.depth, depth_ints]
theorem shaped_lst (ns : List Int) : SeqAt.shaped (.list (ns.map .int)) = true := by
  simp [SeqAt.shaped, PyData.canLay0, canLay_ints, PyData.depth, depth_ints]
/-! ### scalars compared, as simp sees them -/
section
variable {M : Mem} {Q : DK}
@[simp] theorem bEq_int {n : Bool} {i j : Int} : bEq n (.int i) (.int j) M Q = Q (.bl (n ^^ decide (i = j))) M := rfl
@[simp] theorem bEq_str {n : Bool} {i j : Str} : bEq n (.str i) (.str j) M Q = Q (.bl (n ^^ decide (i = j))) M := rfl
@[simp] theorem bEq_bl {n : Bool} {i j : Bool} : bEq n (.bl i) (.bl j) M Q = Q (.bl (n ^^ decide (i = j))) M := rfl
@[simp] theorem bEq_non {n : Bool} : bEq n .non .non M Q = Q (.bl (n ^^ true)) M := rfl
theorem bEq_tup {n : Bool} {xs ys : List Int} (h : Q (.bl (n ^^ decide (xs = ys))) M) : bEq n (.tup (xs.map .int)) (.tup (ys.map .int)) M Q :=
  ⟨_, _, .tup (.ints xs), .tup (.ints ys), shaped_tup xs, shaped_tup ys, by simp only [PyData.eqv]; rw [eqv_ints]; exact h⟩
/-- a list against a list, whatever both are -/
theorem bEq_lst {n : Bool} {x y : D} {xs ys : List Int} (hx : ∀ zs, x ≠ .tup zs) (hx1 : LsAt M x (xs.map .int)) (hy1 : LsAt M y (ys.map .int)) (h : Q (.bl (n ^^ decide (xs = ys))) M) : bEq n x y M Q := (by exact HA.Wq.get : @HA.Wq (bEq n x y M Q) (by
  have key : ∃ d e, DR M x d ∧ DR M y e ∧ SeqAt.shaped d = true ∧ SeqAt.shaped e = true ∧ Q (.bl (n ^^ PyData.eqv d e)) M := ⟨_, _, .lst hx1 (.ints xs), .lst hy1 (.ints ys), shaped_lst xs, shaped_lst ys, by simp only [PyData.eqv]; rw [eqv_ints]; exact h⟩
  match x, y, hx1 with
  | .lst _, _, _ => exact key
  | .frz _, _, _ => exact key
  | .ref _, _, _ => exact key))
end
/-- repr of a tuple of ints, of an int -/
theorem cRepr_tup {M : Mem} {Q : DK} {ns : List Int} (h : SmallI ns) (hl : ns.length ≤ 8000) (q : Q (.str (PyData.tuple (ns.map .int)).shown) M) : cRepr [.tup (ns.map .int)] M Q := ⟨_, .tup (.ints ns), show_tup h hl, q⟩
theorem cRepr_int {M : Mem} {Q : DK} {i : Int} (h : i.natAbs < 2 ^ 1920) (q : Q (.str (PyData.int i).shown) M) : cRepr [.int i] M Q := ⟨_, .int i, show_int h, q⟩
theorem cRepr_of {M : Mem} {Q : DK} {x : D} {d : PyData} (h : DR M x d) (k : ShowOk d) (q : Q (.str d.shown) M) : cRepr [x] M Q := ⟨_, h, k, q⟩
end HA
/-! A14: helps for verification. -/
namespace HA
open PySem PySem.Spec L2
theorem split_at {α : Type} {xs : List α} {i : Nat} {x : α} (hx : xs[i]? = some x) : xs = xs.take i ++ x :: xs.drop (i + 1) ∧ xs.take (i + 1) = xs.take i ++ [x] := (by exact HA.Wq.get : @HA.Wq (xs = xs.take i ++ x :: xs.drop (i + 1) ∧ xs.take (i + 1) = xs.take i ++ [x]) (by
  obtain ⟨hi, e⟩ := List.getElem?_eq_some_iff.mp hx
  constructor
  · have : xs.drop i = x :: xs.drop (i + 1) := by rw [List.drop_eq_getElem_cons hi, e]
    rw [← this, List.take_append_drop]
  · rw [List.take_succ, hx]; rfl))
section
variable {D' : AEn} {σ0 : AS} {M0 : Mem} {st : Mem → Prop} {g : AG} {tb : ASt}
/-- a loop by what was consumed -/
theorem for_fold {xs : List D} (S : List D → AS → Mem → Prop) (h0 : S [] σ0 M0)
    (turn : ∀ pre x rest, xs = pre ++ x :: rest → ∀ σ M, S pre σ M → st M ∧ g x σ M (fun σ2 M2 => tb { D' with nx := S (pre ++ [x]), ct := S (pre ++ [x]), bk := D'.nx } σ2 M2) D'.xx)
    (fin : ∀ σ M, S xs σ M → st M ∧ D'.nx σ M) :
    ∃ V : Nat → AS → Mem → Prop, V 0 σ0 M0 ∧ (∀ i x σ M, xs[i]? = some x → V i σ M → st M ∧ g x σ M (fun σ2 M2 => tb { D' with nx := V (i + 1), ct := V (i + 1), bk := D'.nx } σ2 M2) D'.xx) ∧ ∀ σ M, V xs.length σ M → st M ∧ D'.nx σ M := by
  refine ⟨fun i => S (xs.take i), by simpa using h0, fun i x σ M hx v => ?_, fun σ M v => fin σ M (by simpa using v)⟩
  obtain ⟨e1, e2⟩ := split_at hx
  have := turn (xs.take i) x (xs.drop (i + 1)) e1 σ M v
  simp only [e2]
  exact this
end
/-- a frozen comprehension by what was consumed -/
theorem lc_fold {xs : List D} {M1 : Mem} {Q : List D → Prop} {body : D → Mem → (List D → Prop) → List D → Prop} (R : List D → List D → Prop) (h0 : R [] [])
    (turn : ∀ pre x rest acc M', xs = pre ++ x :: rest → R pre acc → MLe M1 M' → body x M' (R (pre ++ [x])) acc) (fin : ∀ acc, R xs acc → Q acc) :
    ∃ R' : Nat → List D → Prop, R' 0 [] ∧ (∀ i x acc M', xs[i]? = some x → acc.length ≤ i → R' i acc → MLe M1 M' → body x M' (R' (i + 1)) acc) ∧ ∀ acc, R' xs.length acc → Q acc := (by exact HA.Wq.get : @HA.Wq (∃ R' : Nat → List D → Prop, R' 0 [] ∧ (∀ i x acc M', xs[i]? = some x → acc.length ≤ i → R' i acc → MLe M1 M' → body x M' (R' (i + 1)) acc) ∧ ∀ acc, R' xs.length acc → Q acc) (by
  refine ⟨fun i => R (xs.take i), by simpa using h0, fun i x acc M' hx _ v hM => ?_, fun acc v => fin acc (by simpa using v)⟩
  obtain ⟨e1, e2⟩ := split_at hx
  have := turn (xs.take i) x (xs.drop (i + 1)) acc M' e1 v hM
  simp only [e2]
  exact this))
@[simp] theorem MLe.refl' (M : Mem) : MLe M M ↔ True := iff_true_intro (.refl M)
/-- a list of images, split -/
theorem map_split {α : Type} {f : α → D} : ∀ {ns : List α} {pre rest : List D} {x : D}, ns.map f = pre ++ x :: rest → ∃ ps n rs, ns = ps ++ n :: rs ∧ pre = ps.map f ∧ x = f n ∧ rest = rs.map f
  | [], pre, rest, x, h => by cases pre <;> simp at h
  | n :: ns, [], rest, x, h => by
    simp only [List.map_cons, List.nil_append, List.cons.injEq] at h
    exact ⟨[], n, ns, rfl, rfl, h.1.symm, h.2.symm⟩
  | n :: ns, p :: pre, rest, x, h => by
    simp only [List.map_cons, List.cons_append, List.cons.injEq] at h
    obtain ⟨ps, m, rs, h1, h2, h3, h4⟩ := map_split h.2
    exact ⟨n :: ps, m, rs, by rw [h1]; rfl, by rw [h2, ← h.1]; rfl, h3, h4⟩
theorem rangeD_eq (lo : Int) (n : Nat) : rangeD lo n = (List.range n).map fun (j : Nat) => D.int (lo + j) := rfl
theorem range_split {n : Nat} {ps rs : List Nat} {m : Nat} (h : List.range n = ps ++ m :: rs) : m = ps.length ∧ m < n ∧ ps = List.range m := (by exact HA.Wq.get : @HA.Wq (m = ps.length ∧ m < n ∧ ps = List.range m) (by
  have h1 : (List.range n)[ps.length]? = some m := by rw [h]; simp
  obtain ⟨hl, e⟩ := List.getElem?_eq_some_iff.mp h1
  simp at e hl
  refine ⟨e.symm, by omega, ?_⟩
  have h2 : (List.range n).take ps.length = ps := by rw [h]; simp
  rw [← h2, List.take_range]
  congr 1
  omega))
theorem atI_last {α : Type} {xs : List α} {x : α} : atI (xs ++ [x]) (-1) = some x := (by exact HA.Wq.get : @HA.Wq (atI (xs ++ [x]) (-1) = some x) (by
  unfold atI ixN
  have e : ((xs ++ [x]).length : Int) = xs.length + 1 := by simp
  rw [if_neg (by omega), e, if_pos (by omega)]
  have e2 : (-1 + ((xs.length : Int) + 1)).toNat = xs.length := by omega
  rw [e2]
  simp))
end HA
namespace HA
open PySem PySem.Spec L2
/-- a frozen comprehension by what was consumed -/
theorem lcF_fold {xs : List D} {st : Mem → Prop} {M1 : Mem} {Q : List D → Prop} {σ : AS} {vs : List Nat} {g : AG} {tt : AT} {te : AE} (hst : ∀ M', MLe M1 M' → st M') (hl : xs.length ≤ sizeLine) (R : List D → List D → Prop) (h0 : R [] [])
    (turn : ∀ pre x rest acc M', xs = pre ++ x :: rest → R pre acc → MLe M1 M' → g x (wipeA σ vs) M' (fun σ2 M2 => tt σ2 M2 (fun b M3 => (b = true → te σ2 M3 (fun y M4 => M4 = M' ∧ R (pre ++ [x]) (acc ++ [y])) EF) ∧ (b = false → M3 = M' ∧ R (pre ++ [x]) acc)) EF) EF) (fin : ∀ acc, R xs acc → Q acc) :
    (∀ M', MLe M1 M' → st M') ∧ xs.length ≤ sizeLine ∧ ∃ R : Nat → List D → Prop, R 0 [] ∧
      (∀ i x acc M', xs[i]? = some x → acc.length ≤ i → R i acc → MLe M1 M' → g x (wipeA σ vs) M' (fun σ2 M2 => tt σ2 M2 (fun b M3 => (b = true → te σ2 M3 (fun y M4 => M4 = M' ∧ R (i + 1) (acc ++ [y])) EF) ∧ (b = false → M3 = M' ∧ R (i + 1) acc)) EF) EF) ∧ ∀ acc, R xs.length acc → Q acc := (by exact HA.Wq.get : @HA.Wq ((∀ M', MLe M1 M' → st M') ∧ xs.length ≤ sizeLine ∧ ∃ R : Nat → List D → Prop, R 0 [] ∧ (∀ i x acc M', xs[i]? = some x → acc.length ≤ i → R i acc → MLe M1 M' → g x (wipeA σ vs) M' (fun σ2 M2 => tt σ2 M2 (fun b M3 => (b = true → te σ2 M3 (fun y M4 => M4 = M' ∧ R (i + 1) (acc ++ [y])) EF) ∧ (b = false → M3 = M' ∧ R (i + 1) acc)) EF) EF) ∧ ∀ acc, R xs.length acc → Q acc) (by
  refine ⟨hst, hl, fun i => R (xs.take i), by simpa using h0, fun i x acc M' hx _ v hM => ?_, fun acc v => fin acc (by simpa using v)⟩
  obtain ⟨e1, e2⟩ := split_at hx
  have := turn (xs.take i) x (xs.drop (i + 1)) acc M' e1 v hM
  simp only [e2]
  exact this))
theorem stepD_eq (lo c : Int) (n : Nat) : stepD lo c n = (List.range n).map fun (j : Nat) => D.int (lo + j * c) := rfl
theorem sz_le {n : Nat} (h : n ≤ 16777216) : n ≤ sizeLine := by rw [show sizeLine = 16777216 from by decide]; exact h
theorem rgc_up {n sz : Nat} (h1 : 1 ≤ sz) (h2 : sz ≤ 1000000) (hn : n ≤ 1000000000) : RgC 0 n sz ((n + sz - 1) / sz) := (by exact HA.Wq.get : @HA.Wq (RgC 0 n sz ((n + sz - 1) / sz)) (by
  have e : Builtin.Range.rangeSize 0 (n : Int) (sz : Int) = ((n + sz - 1) / sz : Nat) := by
    rw [PyProof.Rows.rangeSize_pos (by omega) (by omega)]
    have : ((n : Int) + sz - 1) = ((n + sz - 1 : Nat) : Int) := by omega
    rw [this]; rfl
  have hb : (n + sz - 1) / sz ≤ n + sz := Nat.le_trans (Nat.div_le_self _ _) (by omega)
  refine ⟨by omega, by omega, ?_, e⟩
  unfold Builtin.Range.small
  rw [e]
  have p : ((sz : Int) > 0) = True := eq_true (by omega)
  simp only [Builtin.Range.rangeFitsLong, Bool.and_eq_true, Bool.or_eq_true, decide_eq_true_eq, beq_iff_eq, p, if_true]
  generalize (n + sz - 1) / sz = z at *
  have q : (2 : Int) ^ 63 = 9223372036854775808 := by decide
  omega))
theorem cut_piece {α : Type} {xs : List α} {a k : Nat} : cut xs (some (a : Int)) (some ((a : Int) + k)) = (xs.drop a).take k := (by exact HA.Wq.get : @HA.Wq (cut xs (some (a : Int)) (some ((a : Int) + k)) = (xs.drop a).take k) (by
  unfold cut
  have e : ((a : Int) + k) = ((a + k : Nat) : Int) := by omega
  rw [e, HT.sIx_nat, HT.sIx_nat]
  by_cases h : a ≤ xs.length
  · rw [Nat.min_eq_left h, List.take_eq_take_iff, List.length_drop]; omega
  · rw [List.drop_of_length_le (by omega), List.drop_of_length_le (by omega)]; simp))
theorem cut_to {α : Type} {xs : List α} {k : Nat} : cut xs none (some (k : Int)) = xs.take k := by
  unfold cut
  rw [HT.sIx_nat, HT.sIx_none, List.drop_zero, List.take_eq_take_iff]
  omega
theorem cut_from {α : Type} {xs : List α} {k : Nat} : cut xs (some (k : Int)) none = xs.drop k := (by exact HA.Wq.get : @HA.Wq (cut xs (some (k : Int)) none = xs.drop k) (by
  unfold cut
  rw [HT.sIx_nat, HT.sIx_none]
  by_cases h : k ≤ xs.length
  · rw [Nat.min_eq_left h, List.take_of_length_le (by simp)]
  · rw [List.drop_of_length_le (by omega), List.drop_of_length_le (by omega)]; simp))
@[simp] theorem mset_same' {M : Mem} {a : Addr} {c : Cell} : mset M a c a = some c := mset_same
@[simp] theorem mset_mset' {M : Mem} {a : Addr} {c c' : Cell} : mset (mset M a c) a c' = mset M a c' := mset_mset
@[simp] theorem atI_0 {α : Type} {x : α} {xs : List α} : atI (x :: xs) 0 = some x := by
  unfold atI ixN; simp
@[simp] theorem atI_1 {α : Type} {x y : α} {xs : List α} : atI (x :: y :: xs) 1 = some y := by
  unfold atI ixN
  rw [if_pos (by decide), if_pos (by simp only [List.length_cons]; omega)]; rfl
@[simp] theorem atI_2 {α : Type} {x y z : α} {xs : List α} : atI (x :: y :: z :: xs) 2 = some z := by
  unfold atI ixN
  rw [if_pos (by decide), if_pos (by simp only [List.length_cons]; omega)]; rfl
@[simp] theorem atI_map {α β : Type} {f : α → β} {xs : List α} {i : Int} : atI (xs.map f) i = (atI xs i).map f := by
  unfold atI
  rw [List.length_map]
  cases ixN xs.length i <;> simp
theorem atI_nat {α : Type} {xs : List α} {i : Nat} (h : i < xs.length) : atI xs i = some xs[i] := by
  unfold atI ixN
  rw [if_pos (by omega), if_pos (by omega)]
  simp
theorem atI_some {α : Type} {xs : List α} {i : Int} (h0 : 0 ≤ i) (h : i < xs.length) : ∃ x, atI xs i = some x ∧ x ∈ xs := by
  have e : i = (i.toNat : Int) := by omega
  rw [e, atI_nat (by omega)]
  exact ⟨_, rfl, List.getElem_mem _⟩
@[simp] theorem pick_1 {α : Type} {a : α} : pick [0] [a] = [a] := rfl
@[simp] theorem pick_2 {α : Type} {a b : α} : pick [0, 1] [a, b] = [a, b] := rfl
@[simp] theorem pick_3 {α : Type} {a b c : α} : pick [0, 1, 2] [a, b, c] = [a, b, c] := rfl
@[simp] theorem pick_4 {α : Type} {a b c d : α} : pick [0, 1, 2, 3] [a, b, c, d] = [a, b, c, d] := rfl
theorem isLs_ref {M : Mem} {a : Addr} {xs : List D} (h : M a = some (.lst xs)) : isLs M (.ref a) := ⟨xs, h⟩
@[simp] theorem isLs_new {M : Mem} {a : Addr} {xs : List D} : isLs (mset M a (.lst xs)) (.ref a) ↔ True := iff_true_intro ⟨xs, mset_same⟩
end HA
/-! A15: the drawing functions that the laws share. -/
namespace HA
open PySem PySem.Spec L2
def gOf : ASt := (aRet (aOp bIx (aVar 1) (aCall spAny 2 0 [0, 1] (aCons (aVar 0) (aCons (aCB cLen (aCons (aVar 1) aNil)) aNil)) aNil)))
theorem v_of : ∀ ds M Q E, spOf ds M Q E → gOf (anyE Q E) (startA ["deal", "some"] ds) M := (by exact HA.Wq.get : @HA.Wq (∀ ds M Q E, spOf ds M Q E → gOf (anyE Q E) (startA ["deal", "some"] ds) M) (by
  intro ds M Q E ⟨x, y, xs, h, hd, hy, hx, hl, q⟩
  subst h
  have hp : 0 < xs.length := by cases xs <;> simp_all
  have h9 : (xs.length : Int).natAbs < 2 ^ 9000 := by
    have : (2 : Nat) ^ 20 ≤ 2 ^ 9000 := Nat.pow_le_pow_right (by decide) (by decide)
    have e : (2 : Nat) ^ 20 = 1048576 := by decide
    omega
  have fin : ∀ r : Int, 0 ≤ r → r < xs.length → ∃ d, atI xs r = some d ∧ ∃ M2, MLe M2 M ∧ Q d M2 := fun r h0 h1 => by
    obtain ⟨d, e, hm⟩ := atI_some h0 h1
    exact ⟨d, e, M, .refl M, q d hm⟩
  rcases hy with rfl | rfl | ⟨a, rfl, ha⟩
  · simp [gOf]
    exact ⟨_, _, rfl, hd, ⟨by omega, h9⟩, fun r h0 h1 => by simpa [anyE] using fin r h0 h1⟩
  · simp [gOf]
    exact ⟨_, _, rfl, hd, ⟨by omega, h9⟩, fun r h0 h1 => by simpa [anyE] using fin r h0 h1⟩
  · simp [gOf, ha]
    exact ⟨_, _, rfl, hd, ⟨by omega, h9⟩, fun r h0 h1 => by simpa [anyE, ha] using fin r h0 h1⟩))
/-- deal[0] -/
abbrev gPool : AE := aOp bIx (aVar 0) (aC (.int 0))
abbrev gFull : AT := aTest (aOp oNe gPool (aLstF aNil))
/-- the way to draw; int() ahead of the number that is taken, or behind it -/
def gLast (c : Int) : ASt := aSeq (aAsg (aOp oMod (aCB cInt (aCons (aOp bAddF (aOp oMul (aOp bIx (aVar 0) (aC (.int 1))) (aC (.int 48271))) (aC (.int c))) aNil)) (aC (.int 2147483647))) (agSub (aVar 0) (aC (.int 1))))
  (aRet (aOp oMod (aCB cInt (aCons (aOp oDiv (aOp bIx (aVar 0) (aC (.int 1))) (aC (.int 64))) aNil)) (aVar 1)))
def gTake (w1 w2 : AE → AE) : ASt := aSeq (aAsg (w1 (aMt0 mPop gPool)) (agName 2)) (aSeq (aDrop (aMt mAppend gPool (aCons (aOp oDiv (aVar 2) (aVar 1)) aNil))) (aRet (aOp oMod (w2 (aVar 2)) (aVar 1))))
def gAny (c : Int) (w1 w2 : AE → AE) : ASt :=
  aSeq (aWhile (aAndT gFull (aTest (aOp oEq (aOp bIx gPool (aNeg (aC (.int 1)))) (aC (.int 0))))) (aDrop (aMt0 mPop gPool))) (aSeq (aIf gFull (gTake w1 w2) aNext) (gLast c))
def wInt (t : AE) : AE := aCB cInt (aCons t aNil)
def wId (t : AE) : AE := t
theorem pool_tl {ns : List Int} (h : PoolOk ns) : PoolOk ns.dropLast := ⟨by simp; have := h.1; omega, fun n hn => h.2 n (List.dropLast_subset _ hn)⟩
theorem neq_nil {n : Bool} {M : Mem} {Q : DK} {l : Addr} {ns : List Int} (h : M l = some (.lst (ns.map .int))) (q : Q (.bl (n ^^ decide (ns = []))) M) : bEq n (.ref l) (.lst []) M Q := bEq_lst (xs := ns) (ys := []) (fun _ z => by cases z) h rfl q
theorem v_any (c : Int) (w1 w2 : AE → AE) (hc : 0 ≤ c) (hw1 : ∀ t, w1 t = wInt t ∨ w1 t = t) (hw2 : ∀ t, w2 t = wInt t ∨ w2 t = t) : ∀ ds M Q E, spAnyT ds M Q E → gAny c w1 w2 (anyE Q E) (startA ["deal", "bound", "rest"] ds) M := (by exact HA.Wq.get : @HA.Wq (∀ ds M Q E, spAnyT ds M Q E → gAny c w1 w2 (anyE Q E) (startA ["deal", "bound", "rest"] ds) M) (by
  intro ds M Q E ⟨a, l, n, m, ns, h, hal, ha, hl, hp, hn, hm, q⟩
  subst h
  unfold gAny
  simp only [aSeq]
  refine ⟨fun k σ M' => ∃ ns', k = ns'.length ∧ PoolOk ns' ∧ σ = [some (.ref a), some (.int m), none] ∧ M' = mset M l (.lst (ns'.map .int)), ⟨ns.length, ns, rfl, hp, rfl, (mset_self hl).symm⟩, ?_⟩
  rintro k σ M' ⟨ns', rfl, hp', rfl, rfl⟩
  have ha' : mset M l (.lst (ns'.map .int)) a = some (.lst [.ref l, .int n]) := by rw [mset_ne hal]; exact ha
  have fin : ∀ r n' ns'' M2, 0 ≤ r → r < m → PoolOk ns'' → 0 ≤ n' → n' < 2147483647 → MLe (opn M a l n' ns'') M2 → Q (.int r) M2 := q
  have hlast : ∀ o, gLast c (anyE Q E) [some (.ref a), some (.int m), o] (mset M l (.lst (ns'.map .int))) := fun o => by
    have hr0 := Int.emod_nonneg (n * 48271 + c) (show (2147483647 : Int) ≠ 0 by decide)
    have hr1 := Int.emod_lt_of_pos (n * 48271 + c) (show (0 : Int) < 2147483647 by decide)
    refine ⟨_, _, ha', rfl, MulOk.right (by decide) (by decide), (by show (0 : Int) < 2147483647; decide), _, 1, ha', rfl, _, _, mset_same, rfl, DivOk.small (by decide) (by decide), (by show 0 < m; omega), ?_⟩
    refine ⟨_, .refl _, q _ _ ns' _ (Int.emod_nonneg _ (by omega)) (Int.emod_lt_of_pos _ (by omega)) hp' hr0 hr1 ?_⟩
    unfold opn
    rw [mset_comm hal]
    exact .refl _
  have htake : ns' ≠ [] → gTake w1 w2 { anyE Q E with nx := gLast c (anyE Q E) } [some (.ref a), some (.int m), none] (mset M l (.lst (ns'.map .int))) := fun hne => by
    obtain ⟨y, hy⟩ : ∃ y, ns'[ns'.length - 1]? = some y := get_lt (by have := List.length_pos_iff.mpr hne; omega)
    have hym : y ∈ ns' := List.mem_of_getElem? hy
    have hy0 := hp'.2 y hym
    have ey : (ns'.map D.int)[(ns'.map D.int).length - 1]? = some (.int y) := by simp [hy]
    have ha2 : mset (mset M l (.lst (ns'.map .int))) l (.lst (ns'.map D.int).dropLast) a = some (.lst [.ref l, .int n]) := by rw [mset_ne hal, mset_ne hal]; exact ha
    have pd : PoolOk (ns'.dropLast ++ [y / m]) := by
      refine ⟨by simp; have := hp'.1; omega, fun z hz => ?_⟩
      rcases List.mem_append.mp hz with hz | hz
      · exact (pool_tl hp').2 z hz
      · rw [List.mem_singleton] at hz
        subst hz
        have h0 := Int.ediv_nonneg hy0.1 (show 0 ≤ m by omega)
        have h1 : y / m ≤ y := Int.ediv_le_self _ hy0.1
        exact ⟨h0, Nat.lt_of_le_of_lt (by omega) hy0.2⟩
    have dv : DivOk y m := DivOk.of (b := 9000) hm.1 hm.2 (by decide) (by decide)
    have ed : (ns'.map D.int).dropLast ++ [.int (y / m)] = (ns'.dropLast ++ [y / m]).map D.int := by simp [List.map_dropLast]
    have last : ∀ M2, MLe (opn M a l n (ns'.dropLast ++ [y / m])) M2 → (anyE Q E).rt (.int (y % m)) M2 := fun M2 h => ⟨_, .refl _, q _ n _ _ (Int.emod_nonneg _ (by omega)) (Int.emod_lt_of_pos _ (by omega)) pd hn.1 hn.2 h⟩
    have lm : MLe (opn M a l n (ns'.dropLast ++ [y / m])) (mset (mset (mset M l (.lst (ns'.map .int))) l (.lst (ns'.map D.int).dropLast)) l (.lst ((ns'.map D.int).dropLast ++ [.int (y / m)]))) := by
      rw [ed, mset_mset, mset_mset]
      unfold opn
      rw [mset_self ha]
      exact .refl _
    have back : aSeq (aDrop (aMt mAppend gPool (aCons (aOp oDiv (aVar 2) (aVar 1)) aNil))) (aRet (aOp oMod (w2 (aVar 2)) (aVar 1))) { anyE Q E with nx := gLast c (anyE Q E) } [some (.ref a), some (.int m), some (.int y)] (mset (mset M l (.lst (ns'.map .int))) l (.lst (ns'.map D.int).dropLast)) := by
      refine ⟨_, _, ha2, rfl, ⟨_, mset_same⟩, dv, _, mset_same, ?_, ?_⟩
      · simp; exact Nat.lt_of_lt_of_le (show _ < 16777216 by have := hp'.1; omega) (sz_le (by omega))
      · show aOp oMod (w2 (aVar 2)) (aVar 1) _ _ _ _
        rcases hw2 (aVar 2) with e | e <;> rw [e] <;> exact ⟨hm.1, last _ lm⟩
    show w1 (aMt0 mPop gPool) _ _ _ _
    rcases hw1 (aMt0 mPop gPool) with e | e <;> rw [e] <;> exact ⟨_, _, ha', rfl, _, _, mset_same, ey, back⟩
  have hif : (aIf gFull (gTake w1 w2) aNext) { anyE Q E with nx := gLast c (anyE Q E) } [some (.ref a), some (.int m), none] (mset M l (.lst (ns'.map .int))) := by
    refine ⟨_, _, ha', rfl, (by decide), neq_nil (ns := ns') mset_same ?_⟩
    exact ⟨fun h => htake (by simpa using h), fun h => hlast _⟩
  refine ⟨_, _, ha', rfl, (by decide), neq_nil (ns := ns') mset_same ⟨fun h => ?_, fun h => ⟨fun z => (by cases z), fun _ => hif⟩⟩⟩
  have hne : ns' ≠ [] := by simpa using h
  obtain ⟨y, hy⟩ : ∃ y, ns'[ns'.length - 1]? = some y := get_lt (by have := List.length_pos_iff.mpr hne; omega)
  have ey : (ns'.map D.int)[(ns'.map D.int).length - 1]? = some (.int y) := by simp [hy]
  have ea : atI (ns'.map D.int) (-1) = some (.int y) := by
    unfold atI ixN
    have hl0 := List.length_pos_iff.mpr hne
    rw [if_neg (by decide), List.length_map, if_pos (by omega)]
    have : (-1 + (ns'.length : Int)).toNat = ns'.length - 1 := by omega
    show (ns'.map D.int)[(-1 + (ns'.length : Int)).toNat]? = _
    rw [this]; simp [hy]
  refine ⟨_, _, ha', rfl, _, _, mset_same, ea, ⟨fun h => ?_, fun _ => hif⟩⟩
  refine ⟨_, _, ha', rfl, _, _, mset_same, ey, ns'.dropLast.length, ?_, ns'.dropLast, rfl, pool_tl hp', rfl, ?_⟩
  · have hl0 := List.length_pos_iff.mpr hne
    simp; omega
  · rw [mset_mset, List.map_dropLast]))

/-! ### the deal is made -/
def gSrc (ti : AE) (md k : Int) : ASt :=
  aSeq (aAsg (aLcF (aWalk (aSlF (aVar 0) aNoPart (aPart (aC (.int 63))))) (agName 2) aYes (aCB (c1I absI) (aCons (aCB cInt (aCons (aVar 2) aNil)) aNil)) [2]) (agName 3))
    (aSeq (aAsg ti (agName 4))
      (aSeq (aFor (aWalk (aVar 3)) (agName 2) (aAsg (aOp oMod (aCB cInt (aCons (aOp bAddF (aOp bAddF (aOp oMul (aVar 4) (aC (.int 48271))) (aOp oMod (aVar 2) (aC (.int md)))) (aC (.int k))) aNil)) (aC (.int 2147483647))) (agName 4)))
        (aRet (aLst (aCons (aRev (aLcF (aWalk (aVar 3)) (agName 2) (aTest (aOp oGe (aVar 2) (aOp oPow (aC (.int 10)) (aC (.int 18))))) (aVar 2) [2])) (aCons (aVar 4) aNil))))))
theorem absI_ok {z : Int} : 0 ≤ absI z ∧ (absI z).natAbs = z.natAbs := (by exact HA.Wq.get : @HA.Wq (0 ≤ absI z ∧ (absI z).natAbs = z.natAbs) (by
  unfold absI
  by_cases h : z < 0
  · rw [if_pos h]; omega
  · rw [if_neg h]; omega))
theorem pow18 : CPow 10 18 := by unfold CPow; decide
theorem v_src (ti : AE) (md k : Int) (hmd : 0 < md) (hti : ∀ ns b cs M Q E, 0 ≤ b → b < 1000 → (∀ i : Int, 0 ≤ i → i < 2147483647 → Q (.int i) M) → ti [some (.frz ns), some (.int b), none, some cs, none] M Q E) :
    ∀ ds M Q E, spSrcT ds M Q E → gSrc ti md k (anyE Q E) (startA ["script", "salt", "cell", "cells", "blend"] ds) M := (by exact HA.Wq.get : @HA.Wq (∀ ds M Q E, spSrcT ds M Q E → gSrc ti md k (anyE Q E) (startA ["script", "salt", "cell", "cells", "blend"] ds) M) (by
  intro ds M Q E ⟨ns, b, h, hl, hbd, hb, q⟩
  subst h
  have hcut : cut (ns.map D.int) none (some 63) = ns.map D.int := by
    have := cut_to (xs := ns.map D.int) (k := 63)
    rw [show (some ((63 : Nat) : Int)) = some 63 from rfl] at this
    rw [this, List.take_of_length_le (by simpa using hl)]
  unfold gSrc
  refine ⟨_, rfl, _, rfl, ?_⟩
  refine lcF_fold (xs := cut (ns.map D.int) none (some 63)) (fun _ _ => ?_) (by rw [hcut]; simp; exact sz_le (by omega)) (fun pre acc => ∃ zs : List Int, pre = zs.map D.int ∧ acc = (zs.map absI).map D.int) ⟨[], rfl, rfl⟩ ?_ ?_
  · trivial
  · rintro pre x rest acc M' e ⟨zs, rfl, rfl⟩ hM
    rw [hcut] at e
    obtain ⟨ps, n, rs, e1, e2, rfl, e4⟩ := map_split e
    refine ⟨fun _ => ⟨rfl, zs ++ [n], by simp, by simp⟩, fun z => (by cases z)⟩
  rw [hcut]
  rintro acc ⟨zs, e, rfl⟩
  have e : ns = zs := by
    have := congrArg (List.map fun d => match d with | D.int i => i | _ => 0) e
    simpa [List.map_map, Function.comp_def] using this
  subst e
  refine hti _ _ _ _ _ _ hb.1 hb.2 fun i hi0 hi1 => ?_
  have hcs : ∀ z ∈ ns.map absI, 0 ≤ z ∧ z.natAbs < 2 ^ big := fun z hz => by
    obtain ⟨y, hy, rfl⟩ := List.mem_map.mp hz
    exact ⟨absI_ok.1, by rw [absI_ok.2]; exact hbd y hy⟩
  have hlc : (ns.map absI).length ≤ 63 := by simpa using hl
  generalize ns.map absI = cs at hcs hlc
  refine ⟨_, rfl, ?_⟩
  refine for_fold (xs := cs.map D.int) (fun pre σ M' => M' = M ∧ ∃ (i : Int) (o : Option D), (0 ≤ i ∧ i < 2147483647) ∧ σ = [some (.frz (ns.map D.int)), some (.int b), o, some (.lst (cs.map D.int)), some (.int i)]) ⟨rfl, i, none, ⟨hi0, hi1⟩, rfl⟩ ?_ ?_
  · rintro pre x rest e σ M' ⟨hM, i, o, hi, hσ⟩
    subst hσ
    obtain ⟨ps, n, rs, e1, e2, rfl, e4⟩ := map_split e
    refine ⟨trivial, MulOk.right (by decide) (by decide), hmd, (by show (0 : Int) < 2147483647; decide), hM, _, _, ⟨Int.emod_nonneg _ (by decide), Int.emod_lt_of_pos _ (by decide)⟩, rfl⟩
  · rintro σ M' ⟨hM, i, o, hi, hσ⟩
    subst hσ
    subst hM
    refine ⟨trivial, _, rfl, ?_⟩
    refine lcF_fold (xs := cs.map D.int) (fun _ _ => ?_) (by simp; exact sz_le (by omega)) (fun pre acc => ∃ zs : List Int, acc = zs.map D.int ∧ zs.length ≤ pre.length ∧ ∀ z ∈ zs, z ∈ cs) ⟨[], rfl, by simp, by simp⟩ ?_ ?_
    · trivial
    · rintro pre x rest acc M2 e ⟨zs, rfl, hz1, hz2⟩ hM
      obtain ⟨ps, n, rs, e1, e2, rfl, e4⟩ := map_split e
      refine ⟨pow18, fun _ => ⟨rfl, zs ++ [n], by simp, by simp; omega, fun z hz => ?_⟩, fun _ => ⟨rfl, zs, rfl, by simp; omega, hz2⟩⟩
      rcases List.mem_append.mp hz with hz | hz
      · exact hz2 z hz
      · rw [List.mem_singleton] at hz; subst hz; rw [e1]; simp
    · rintro acc ⟨zs, rfl, hz1, hz2⟩
      refine ⟨_, rfl, fun l hl0 => ⟨sz_le (by simp), fun a ha0 => ?_⟩⟩
      have nal : a ≠ l := fun z => by subst z; rw [mset_same] at ha0; cases ha0
      have ha1 : M' a = none := by rw [mset_ne nal] at ha0; exact ha0
      refine ⟨_, .refl _, q a l i zs.reverse _ nal ha1 hl0 (.new2 ha0 (.new hl0)) mset_same ?_ ⟨?_, fun z hz => hcs z (hz2 z (by simpa using hz))⟩ hi.1 hi.2⟩
      · rw [mset_ne (Ne.symm nal), mset_same, List.map_reverse]
      · simp at hz1 ⊢; omega))
end HA
namespace HA
open PySem PySem.Spec PyProof.Rows L2
open PySem.AutoSeq1 (wpAny_loadPart')
theorem tuple_mul1 (l : Addr) (items : Array Value) (n : Nat) (dd : Option Addr) (sl : Array (Option Value)) (x : Int) (u : Tok) (c0 : (decide (x < -(2 ^ 63)) || decide (x ≥ 2 ^ 63)) = false) (c1 : (items.isEmpty || x == 1) = true) :
    Meets (Builtin.«tuple.__mul__» ⟨[.ref l, .int x u], []⟩) (fun _ R s => s.heap.get? l = some { cls := .type "tuple", dict := dd, data := .seq items n, slots := sl } ∧ R (.ok (.ret (Value.ref l))) { s with toks := s.toks }) :=
  .of_wp fun prog w A R s h => by
    obtain ⟨hp, g, d, tk, os⟩ := s
    obtain ⟨hl, h⟩ := h
    have f1 := AutoSeq1.idx_int
    wp_walk using wpAny_loadPart' hl
    repeat (first
      | (refine wpAny_ite_false (decide_eq_false (by rw [c0]; exact Bool.false_ne_true)) ?_; wp_walk using wpAny_loadPart' hl)
      | (refine wpAny_ite_true (decide_eq_true c1) ?_; wp_walk using wpAny_loadPart' hl))
    exact ⟨_, rfl, h⟩
theorem tuple_mul0 (l : Addr) (items : Array Value) (n : Nat) (dd : Option Addr) (sl : Array (Option Value)) (x : Int) (u : Tok) (c0 : (decide (x < -(2 ^ 63)) || decide (x ≥ 2 ^ 63)) = false) (c1 : (items.isEmpty || x == 1) = false) (c2 : (decide (x ≤ 0) || items.isEmpty) = true) :
    Meets (Builtin.«tuple.__mul__» ⟨[.ref l, .int x u], []⟩) (fun _ R s => s.heap.get? l = some { cls := .type "tuple", dict := dd, data := .seq items n, slots := sl } ∧
      R (.ok (.ret (Value.ref s.heap.objs.size))) { s with heap := s.heap.push { cls := Value.type "tuple", data := Data.seq #[] }, toks := s.toks }) :=
  .of_wp fun prog w A R s h => by
    obtain ⟨hp, g, d, tk, os⟩ := s
    obtain ⟨hl, h⟩ := h
    have f1 := AutoSeq1.idx_int
    wp_walk using wpAny_loadPart' hl
    repeat (first
      | (refine wpAny_ite_false (decide_eq_false (by rw [c0]; exact Bool.false_ne_true)) ?_; wp_walk using wpAny_loadPart' hl)
      | (refine wpAny_ite_false (decide_eq_false (by rw [c1]; exact Bool.false_ne_true)) ?_; wp_walk using wpAny_loadPart' hl)
      | (refine wpAny_ite_true (decide_eq_true c2) ?_; wp_walk using wpAny_loadPart' hl))
    exact ⟨_, rfl, h⟩
section
variable {X : Cx}
/-- a tuple times an int -/
def rRepA (K : PySem.W.Frag) : R2 := fun x y H Q => ∃ l k xs, x = .ref l ∧ y = .int k ∧ SqT K H l xs ∧ -(2 ^ 62) ≤ k ∧ k ≤ 1000 ∧ xs.length ≤ 1000 ∧ (xs = [] ∨ k = 1 → Q (.ref l) H) ∧ (xs ≠ [] → k ≠ 1 → ∀ p, H p = none → Q (.ref p) (upd H p (.tup (List.replicate k.toNat xs).flatten)))
theorem op_repA : OpR X (binaryOp .Mult) (rRepA X.K) := (by exact HA.Wq.get : @HA.Wq (OpR X (binaryOp .Mult) (rRepA X.K)) (by
  intro pins s σ H x y v u Q I rx ry h
  obtain ⟨l, k, xs, rfl, rfl, hT, h1, h2, hz, q1, q2⟩ := h
  have e62 : (2 : Int) ^ 62 = 4611686018427387904 := by decide
  have e63 : (2 : Int) ^ 63 = 9223372036854775808 := by decide
  by_cases hk : xs = [] ∨ k = 1 ∨ k ≤ 0
  · cases rx
    obtain ⟨t, rfl⟩ := ry
    obtain ⟨its, r, ⟨⟨cls, dd, data, sl⟩, ho, hc, n, hd⟩, hs⟩ := I.tuple hT
    simp only at hc hd
    subst hc hd
    have hle : its.length = xs.length := r.length.symm
    have c0 : (decide (k < -(2 ^ 63)) || decide (k ≥ 2 ^ 63)) = false := by
      rw [decide_eq_false (by omega), decide_eq_false (by omega)] <;> rfl
    by_cases h1k : xs = [] ∨ k = 1
    · have c1 : (its.toArray.isEmpty || k == 1) = true := by
        rcases h1k with e | e
        · have : its = [] := List.eq_nil_of_length_eq_zero (by rw [hle, e]; rfl)
          subst this; rfl
        · subst e; simp
      refine wpAny_binaryOp_repeat_ref (T := "tuple") (U := "int") (by decide) ⟨_, ho, rfl⟩ (fun s' => typeIs_int s' k t) noFill_tuple_mul F.fills_int_mul F.slot_int_rmul repeat_tuple F.slot_int_index.lookup
        (call_meets F.slot_int_rmul (typeIs_int s k t) F.entry_int_rmul (F.args_int_rmul_2 _ _) (int_rmul_tuple k t l its.toArray n dd sl)
          ⟨ho, rfl, ⟨_, ho, rfl⟩, call_meets F.slot_tuple_mul ⟨_, ho, rfl⟩ F.entry_tuple_mul (F.args_tuple_mul_2 _ _) (tuple_mul1 l its.toArray n dd sl k t c0 c1) ⟨ho, ?_⟩⟩)
      exact ⟨.ref l, H, I, rfl, q1 h1k⟩
    · have hne : xs ≠ [] := fun e => h1k (.inl e)
      have hk1 : k ≠ 1 := fun e => h1k (.inr e)
      have hk0 : k ≤ 0 := by
        rcases hk with e | e | e
        · exact absurd e hne
        · exact absurd e hk1
        · exact e
      have hi : its.toArray.isEmpty = false := by
        cases its with
        | nil => exact absurd (List.eq_nil_of_length_eq_zero hle.symm) hne
        | cons a b => rfl
      have c1 : (its.toArray.isEmpty || k == 1) = false := by
        rw [hi, Bool.false_or]; exact beq_eq_false_iff_ne.mpr hk1
      have c2 : (decide (k ≤ 0) || its.toArray.isEmpty) = true := by rw [decide_eq_true hk0]; rfl
      refine wpAny_binaryOp_repeat_ref (T := "tuple") (U := "int") (by decide) ⟨_, ho, rfl⟩ (fun s' => typeIs_int s' k t) noFill_tuple_mul F.fills_int_mul F.slot_int_rmul repeat_tuple F.slot_int_index.lookup
        (call_meets F.slot_int_rmul (typeIs_int s k t) F.entry_int_rmul (F.args_int_rmul_2 _ _) (int_rmul_tuple k t l its.toArray n dd sl)
          ⟨ho, rfl, ⟨_, ho, rfl⟩, call_meets F.slot_tuple_mul ⟨_, ho, rfl⟩ F.entry_tuple_mul (F.args_tuple_mul_2 _ _) (tuple_mul0 l its.toArray n dd sl k t c0 c1 c2) ⟨ho, ?_⟩⟩)
      have q := q2 hne hk1
      have e0 : k.toNat = 0 := by omega
      rw [e0] at q
      exact ⟨.ref s.heap.objs.size, _, I.laid (t' := s.toks) (o := .tup []) (fun b ob q => Heap.get?_push_of_some _ q) (Nat.le_refl _) ⟨Nat.zero_le _, [], .nil, IsTup.new _ _⟩, rfl, q _ (I.hok.fresh (Nat.le_refl _))⟩
  · have hne : xs ≠ [] := fun e => hk (.inl e)
    exact op_repT pins s σ H _ _ v u Q I rx ry ⟨l, k, xs, rfl, rfl, hT, hne, by omega, h2, hz, q2 hne (by omega)⟩))
end
def bMul2 : A2 := fun x y M Q => match x, y with
  | .int i, .int j => MulOk i j ∧ Q (.int (i * j)) M
  | .tup xs, .int k => (-(2 ^ 62) ≤ k ∧ k ≤ 1000) ∧ xs.length ≤ 1000 ∧ Q (.tup (List.replicate k.toNat xs).flatten) M
  | _, _ => False
theorem bMul2_ok {K : PySem.W.Frag} : OkR K bMul2 (fun x y H Q => (rI MulOk fun i j => .int (i * j)) x y H Q ∨ rRepA K x y H Q) := fun G M H x y xv yv Q R m rx ry h k => by
  unfold bMul2 at h
  split at h
  · cases rx; cases ry
    exact .inl ⟨_, _, rfl, rfl, h.1, k _ _ (.here m (.int _) h.2)⟩
  · rename_i xs n
    obtain ⟨a, vs, rfl, p, t⟩ := rp_tup rx
    cases ry
    obtain ⟨⟨h1, h2⟩, h3, q⟩ := h
    refine .inr ⟨a, _, vs, rfl, rfl, same_sqt m.same p, h1, h2, by rw [← t.len]; exact h3, fun e => ?_, fun _ _ p hp => Kv.tup m k (t.rep _) hp q⟩
    have : (List.replicate n.toNat xs).flatten = xs := by
      rcases e with e | e
      · subst e; cases t; simp
      · subst e; simp
    rw [this] at q
    exact k _ _ (.here m rx q)
  · exact h.elim
section
variable {X : Cx} {B : Hp} {W : WX} {a b : Expr} {ta tb : AE} {pos : Pos}
theorem qe_mul2 (ha : QE X B W a ta) (hb : QE X B W b tb) : QE X B W (.BinOp a .Mult b pos) (aOp bMul2 ta tb) := qe_op (op_mulO.or op_repA) bMul2_ok ha hb
/-- what is never reached -/
def aDead : ASt := fun _ _ _ => False
theorem qs_dead {st : Stmt} : QS X B W st aDead := ⟨fun pins s σ H D I ⟨_, _, _, _, _, h, _⟩ => h.elim⟩
end
end HA
/-! A17: plain lemmas and defs that many laws share. -/
namespace HA
open PySem PySem.Spec L2
def tI (ns : List Int) : D := .tup (ns.map .int)
def Oct (ns : List Int) : Prop := ∀ n ∈ ns, 0 ≤ n ∧ n < 256
/-- the number of octets, the lowest first -/
def numOf (ns : List Int) : Int := ns.foldr (fun o t => 256 * t + o) 0
theorem int_inj {xs ys : List Int} : List.map D.int xs = List.map D.int ys ↔ xs = ys := (by exact HA.Wq.get : @HA.Wq (List.map D.int xs = List.map D.int ys ↔ xs = ys) (by
  constructor
  · intro h
    have := congrArg (List.map fun d => match d with | D.int i => i | _ => 0) h
    simpa [List.map_map, Function.comp_def] using this
  · rintro rfl; rfl))
theorem tI_inj {a b : List Int} (h : tI a = tI b) : a = b := int_inj.mp (by injection h)
theorem Oct.app {a b : List Int} (h : Oct a) (k : Oct b) : Oct (a ++ b) := fun n hn => (List.mem_append.mp hn).elim (h n) (k n)
theorem Oct.take {a : List Int} {n : Nat} (h : Oct a) : Oct (a.take n) := fun m hm => h m (List.mem_of_mem_take hm)
theorem Oct.drop {a : List Int} {n : Nat} (h : Oct a) : Oct (a.drop n) := fun m hm => h m (List.mem_of_mem_drop hm)
theorem Oct.one {n : Int} (h : 0 ≤ n) (k : n < 256) : Oct [n] := fun m hm => by rw [List.mem_singleton] at hm; subst hm; exact ⟨h, k⟩
theorem Oct.zeros (n : Nat) : Oct (List.replicate n 0) := fun m hm => by rw [List.eq_of_mem_replicate hm]; decide
theorem Oct.small {ns : List Int} (h : Oct ns) : SmallI ns := fun n hn => by
  have := h n hn
  have e : (2 : Nat) ^ 8 ≤ 2 ^ 1920 := Nat.pow_le_pow_right (by decide) (by decide)
  have e2 : (2 : Nat) ^ 8 = 256 := by decide
  omega
theorem num_bd : ∀ {ns : List Int}, Oct ns → 0 ≤ numOf ns ∧ numOf ns < 256 ^ ns.length
  | [], _ => by simp [numOf]
  | n :: r, h => by
    have ih := num_bd (ns := r) fun m hm => h m (List.mem_cons_of_mem _ hm)
    have h0 := h n List.mem_cons_self
    have e : numOf (n :: r) = 256 * numOf r + n := rfl
    have e2 : (256 : Int) ^ (n :: r).length = 256 * 256 ^ r.length := by rw [List.length_cons, Int.pow_succ]; omega
    rw [e, e2]
    generalize (256 : Int) ^ r.length = z at *
    omega
theorem num_snoc {ns : List Int} {n : Int} : numOf (ns ++ [n]) = numOf ns + 256 ^ ns.length * n := (by exact HA.Wq.get : @HA.Wq (numOf (ns ++ [n]) = numOf ns + 256 ^ ns.length * n) (by
  induction ns with
  | nil => simp [numOf]
  | cons m r ih =>
    have e : numOf (m :: r) = 256 * numOf r + m := rfl
    have e1 : numOf (m :: r ++ [n]) = 256 * numOf (r ++ [n]) + m := rfl
    have e2 : (256 : Int) ^ (m :: r).length = 256 * 256 ^ r.length := by rw [List.length_cons, Int.pow_succ]; omega
    rw [e1, ih, e, e2]
    generalize (256 : Int) ^ r.length = z at *
    grind))
theorem na_lt {i : Int} {n : Nat} (h0 : 0 ≤ i) (h : i < 2 ^ n) : i.natAbs < 2 ^ n := by
  have e : ((2 ^ n : Nat) : Int) = 2 ^ n := by norm_cast
  omega
theorem dr_ok {m : Int} (h0 : 0 < m) (h : m < 1606938044258990275541962092341162602522202993782792835301376) : 0 < m ∧ m.natAbs < 2 ^ 9000 := (by exact HA.Wq.get : @HA.Wq (0 < m ∧ m.natAbs < 2 ^ 9000) (by
  have e : (2 : Nat) ^ 200 ≤ 2 ^ 9000 := Nat.pow_le_pow_right (by decide) (by decide)
  have e2 : (2 : Nat) ^ 200 = 1606938044258990275541962092341162602522202993782792835301376 := by decide
  refine ⟨h0, Nat.lt_of_lt_of_le ?_ e⟩
  rw [e2]; omega))
theorem sm200 {z : Int} (h0 : 0 ≤ z) (h : z < 2 ^ 200) : z.natAbs < 2 ^ 1920 := Nat.lt_of_lt_of_le (na_lt h0 h) (Nat.pow_le_pow_right (by decide) (by decide))
theorem ne_self {α : Type} [DecidableEq α] {x y : α} (e : x = y) (h : (true ^^ decide (x = y)) = true) : False := by
  subst e; simp at h
theorem add_ok {ns : List Int} {z : Int} {k : Nat} (hl : ns.length = k) (ho : Oct ns) (h0 : 0 ≤ z) (h1 : z < 256) : ∃ ns' : List Int, ns.map D.int ++ [.int z] = ns'.map .int ∧ ns'.length = k + 1 ∧ Oct ns' := ⟨ns ++ [z], by simp, by simp [hl], ho.app (.one h0 h1)⟩
/-! ### the number of octets -/
def gNum : ASt := aSeq (aAsg (aC (.int 0)) (agName 1)) (aSeq (aFor (aWalk (aRevF (aVar 0))) (agName 2) (aAsg (aOp bAddF (aOp oMul (aC (.int 256)) (aVar 1)) (aVar 2)) (agName 1))) (aRet (aVar 1)))
def spNum : ASp := fun ds M Q _ => ∃ ns : List Int, ds = [tI ns] ∧ Q (.int (numOf ns)) M
theorem v_num : ∀ ds M Q E, spNum ds M Q E → gNum (pureE M Q E) (startA ["octets", "total", "octet"] ds) M := (by exact HA.Wq.get : @HA.Wq (∀ ds M Q E, spNum ds M Q E → gNum (pureE M Q E) (startA ["octets", "total", "octet"] ds) M) (by
  intro ds M Q E ⟨ns, h, q⟩
  subst h
  unfold gNum
  refine for_fold (xs := (ns.map D.int).reverse) (fun pre σ M' => M' = M ∧ ∃ (ms : List Int) (o : Option D), pre = ms.map D.int ∧ σ = [some (tI ns), some (.int (numOf ms.reverse)), o]) ⟨rfl, [], none, rfl, rfl⟩ ?_ ?_
  · rintro pre x rest e σ M' ⟨hM, ms, o, hpre, hσ⟩
    subst hσ
    rw [← List.map_reverse] at e
    obtain ⟨ps, n, rs, e1, e2, rfl, e4⟩ := map_split e
    exact ⟨trivial, MulOk.left (by decide) (by decide), hM, ms ++ [n], some (.int n), by rw [hpre]; simp, by rw [List.reverse_append]; rfl⟩
  · rintro σ M' ⟨hM, ms, o, hpre, hσ⟩
    subst hσ
    rw [← List.map_reverse, int_inj] at hpre
    subst hM
    rw [← hpre, List.reverse_reverse]
    exact ⟨trivial, .refl _, q⟩))
/-! ### drawn octets, all alike now and then -/
def gOct : ASt := aSeq (aAsg (aCall spAny 2 0 [0, 1] (aCons (aVar 0) (aCons (aC (.int 8)) aNil)) aNil) (agName 2))
  (aRet (aCB cTuple (aCons (aLcF (aRng1 (aCons (aVar 1) aNil)) (agName 3) aYes (aIfE (aTest (aOp oLt (aVar 2) (aC (.int 2)))) (aOp oMul (aC (.int 255)) (aVar 2)) (aCall spAny 2 0 [0, 1] (aCons (aVar 0) (aCons (aC (.int 256)) aNil)) aNil)) [3]) aNil)))
def spOct : ASp := fun ds M Q _ => ∃ (x : D) (m : Nat), ds = [x, .int m] ∧ Deal M x ∧ m ≤ 100000 ∧ ∀ ns, ns.length = m → Oct ns → Q (tI ns) M
theorem v_oct : ∀ ds M Q E, spOct ds M Q E → gOct (pureE M Q E) (startA ["deal", "many", "kind", "turn"] ds) M := (by exact HA.Wq.get : @HA.Wq (∀ ds M Q E, spOct ds M Q E → gOct (pureE M Q E) (startA ["deal", "many", "kind", "turn"] ds) M) (by
  intro ds M Q E ⟨x, m, h, hd, hm, q⟩
  subst h
  refine ⟨rfl, rfl, x, 8, rfl, hd, dr_ok (by decide) (by decide), fun kd k0 k8 => ?_⟩
  refine ⟨⟨by omega, by omega⟩, ?_⟩
  have e0 : ((m : Int)).toNat = m := by omega
  refine lcF_fold (xs := rangeD 0 ((m : Int)).toNat) (fun _ _ => ?_) (by rw [rangeD_len]; exact sz_le (by omega)) (fun pre acc => ∃ ns : List Int, acc = ns.map .int ∧ ns.length = pre.length ∧ Oct ns) ⟨[], rfl, rfl, fun _ h => nomatch h⟩ ?_ ?_
  · trivial
  · rintro pre y rest acc M' e ⟨ns, rfl, hl, ho⟩ hM
    have el : (pre ++ [y]).length = pre.length + 1 := by simp
    rw [el]
    obtain ⟨ps, n, rs, e1, e2, rfl, e4⟩ := map_split ((rangeD_eq _ _).symm.trans e)
    refine ⟨fun _ => ⟨fun h => ⟨MulOk.left (by decide) (by decide), rfl, add_ok hl ho ?_ ?_⟩, fun _ => ⟨rfl, rfl, x, 256, rfl, hd.up hM, dr_ok (by decide) (by decide), fun r r0 r1 => ⟨rfl, add_ok hl ho r0 r1⟩⟩⟩, fun z => nomatch z⟩
    · omega
    · have := of_decide_eq_true h; omega
  · rintro acc ⟨ns, rfl, hl, ho⟩
    refine ⟨_, rfl, .refl M, q ns ?_ ho⟩
    rw [hl, rangeD_len, e0]))
end HA
/-! A18: more names; ranges from anywhere. -/
namespace HA
open PySem PySem.Spec L2
abbrev cMax : AC := c2I fun i j => if j > i then j else i
abbrev cMin : AC := c2I fun i j => if j < i then j else i
/-- range(lo, hi, sz), upwards -/
theorem rgc_from {lo hi : Int} {sz : Nat} (h1 : 1 ≤ sz) (h2 : sz ≤ 1000000) (hl : -1000000000 ≤ lo ∧ lo ≤ 1000000000) (hh : -1000000000 ≤ hi ∧ hi ≤ 1000000000) : ∃ n : Nat, RgC lo hi sz n ∧ ((n : Int) = if lo < hi then (hi - lo - 1) / sz + 1 else 0) := (by exact HA.Wq.get : @HA.Wq (∃ n : Nat, RgC lo hi sz n ∧ ((n : Int) = if lo < hi then (hi - lo - 1) / sz + 1 else 0)) (by
  have p : ((sz : Int) > 0) := by omega
  have e : Builtin.Range.rangeSize lo hi (sz : Int) = if lo < hi then (hi - lo - 1) / sz + 1 else 0 := by
    unfold Builtin.Range.rangeSize
    rw [if_pos p]
  have b0 : 0 ≤ (if lo < hi then (hi - lo - 1) / (sz : Int) + 1 else 0) := by
    split
    · have := Int.ediv_nonneg (show 0 ≤ hi - lo - 1 by omega) (show (0 : Int) ≤ sz by omega)
      omega
    · omega
  have b1 : (if lo < hi then (hi - lo - 1) / (sz : Int) + 1 else 0) ≤ 2000000001 := by
    split
    · have := Int.ediv_le_self (sz : Int) (show 0 ≤ hi - lo - 1 by omega)
      omega
    · omega
  refine ⟨(if lo < hi then (hi - lo - 1) / (sz : Int) + 1 else 0).toNat, ⟨by omega, by omega, ?_, by rw [e]; omega⟩, by omega⟩
  unfold Builtin.Range.small
  rw [e]
  have pt : ((sz : Int) > 0) = True := eq_true p
  simp only [Builtin.Range.rangeFitsLong, Bool.and_eq_true, Bool.or_eq_true, decide_eq_true_eq, beq_iff_eq, pt, if_true]
  have q : (2 : Int) ^ 63 = 9223372036854775808 := by decide
  generalize (if lo < hi then (hi - lo - 1) / (sz : Int) + 1 else 0) = z at *
  omega))
end HA
/-! A19: methods, new instances. -/
namespace HA
open PySem PySem.Spec L2
theorem make_guards {A : Around} {C : Addr} {us : List Value} {kw : List (Str × Value)} (h : A.guards = some []) : (A.under (.builtin "type.__call__" ⟨.ref C :: us, kw⟩)).guards = some [] := by
  first | exact h | (simp [Around.under, Code.weight, Code.isCreation, Code.isGuard, Code.isCaller, Code.frames, Code.isFrame, guardIds, h]; done) | (simp [Around.under, pushGuards, h]; done)
section
variable {X : Cx} {B : Hp} {W : WX} {k n : Nat} {f C : Addr} {fd : FuncData} {ps ks : List Str} {sp : ASp} {pm : List Nat} {x m : Str} {p pos apos : Pos} {e o : Expr} {es : List Expr} {kws : List Keyword} {ta : AE} {tas tks : AA}
/-- o.m(e, ..) of a class of the module -/
def aMeth (C : Addr) (m : Str) (sp : ASp) (n : Nat) (pm : List Nat) (to : AE) (ta : AA) : AE := fun σ M Q E => to σ M (fun x M1 => match x with
  | .ref a => ∃ fs, M1 a = some (.ins C fs) ∧ fs.lookup m = none ∧ ta σ M1 (fun us M2 => us.length = n ∧ sp (pick pm (.ref a :: us)) M2 Q (E σ)) E
  | _ => False) E
/-- a method as its callers see it -/
structure CalM (P : Program) (w : World) (K : PySem.W.Frag) (mg : Str → Option Value) (base : Heap) (k : Nat) (C : Addr) (m qual : Str) (st : Stmt) (ps : List Str) (sp : ASp) : Prop where
  ex : ∃ f fd, Fun K m qual st f fd ∧ Meth K C m f ∧ FA P w K mg base k f fd ps sp
theorem Bds.of' {qual : Str} {st : Stmt} (b : Bds x qual st ps n ks pm) {K : PySem.W.Frag} (F : Fun K x qual st f fd) : Bnd fd ps n ks pm := by
  obtain ⟨oc, od, kV, doc, pm', an, cdv, ct, osl, rfl, _, _⟩ := F.ex
  exact b _ _ _ _ _ _
theorem qe_meth {pl : Sem Bool} {qual : Str} {st : Stmt} (he : QE X B W o ta) (cl : Cls X.K C) (c : CalM X.prog X.w X.K X.mg X.base k C m qual st ps sp) (hr : Room k X.A) (hg : X.A.guards = some []) (tk : Takes X W) (b : Bds m qual st ps (n + 1) [] pm) (ha : QA X B W (e :: es) tas)
    (hst : starEach (e :: es) X.env = (false, eval e X.env) :: starEach es X.env := by rfl) (hpl : (backTo pos (starEach es X.env)).any (·.1) = false := by rfl)
    (ht : eval (.Call (.Attribute o m apos) (e :: es) [] pos) X.env = (do
      let ov ← eval o X.env
      standAt apos.atName
      let (f, first) ← holding [ov] (getMethod ov m pl)
      callWith pos f first (backTo pos (starEach (e :: es) X.env)) (backToKw pos (keywordEach [] X.env))) := by rfl) :
    QE X B W (.Call (.Attribute o m apos) (e :: es) [] pos) (aMeth C m sp n pm ta tas) := by
  obtain ⟨f, fd, hF, hm, F⟩ := c.ex
  have bn := b.of' hF
  refine ⟨fun pins s σ' H R I ⟨G, σ, M, Q, E, ss, h, kq, kx⟩ => ?_⟩
  refine PySem.W.methodCall_KW (pl := pl) (thn (he.run pins s σ' H (Kv X.K G _) I ⟨G, σ, M, _, E, ss, h, fun v H' kv => kv, kx⟩) fun u s1 ⟨x, H1, I1, rx, d, M1, G1, e1, m1, r1, q1⟩ => ?_) ht
  match d, q1 with
  | .ref a, ⟨fs, h1, hl, q1⟩ =>
    obtain ⟨_, dx, vs, fr, eH⟩ := m1.cell a _ h1
    cases r1
    obtain rfl : u = Value.ref a := rx
    refine getmeth_ok I1 eH cl hm (fr.nolook hl) ?_
    refine PySem.W.callWith_K (first := [.ref a]) (h₀ := X.base) I.ok.mod.kin hm.kp (thn (ha.run pos pins s1 σ' H1 (fun vs H1 => ∃ ds M2 G2, Same G1 G2 ∧ SM X.K G2 M2 H1 ∧ RpA X.K G2 ds vs ∧ _) I1 ⟨G1, σ, M1, _, E, ss.with e1 m1, q1, fun vs H1 ds M1 G1 e1 m1 r1 q1 => ⟨ds, M1, G1, e1, m1, r1, q1⟩, kx⟩) fun us s2 ⟨vs', H2, I2, r, ds, M2, G2, e2, m2, r2, l2, q2⟩ => ⟨I2.kIn, ?_⟩) hst hpl
    have := run_fa (us := .ref a :: us) (ws := []) (zs := []) (vs := .ref a :: vs') (ds := .ref a :: ds) (es' := []) F hr hg tk bn I2 (ss.with (e1.trans e2) m2) (.cons rfl r) .nil (.cons (.ref a) r2) .nil (by simp [l2]) rfl (by simpa using q2) (fun v H' kv => kq v H' (kv.lift (e1.trans e2))) kx
    exact this
/-- o.m() -/
theorem qe_meth0 {pl : Sem Bool} {qual : Str} {st : Stmt} (he : QE X B W o ta) (cl : Cls X.K C) (c : CalM X.prog X.w X.K X.mg X.base k C m qual st ps sp) (hr : Room k X.A) (hg : X.A.guards = some []) (tk : Takes X W) (b : Bds m qual st ps 1 [] pm)
    (ht : eval (.Call (.Attribute o m apos) [] [] pos) X.env = (do
      let ov ← eval o X.env
      standAt apos.atName
      let (f, first) ← holding [ov] (getMethod ov m pl)
      callWith pos f first (backTo pos (starEach [] X.env)) (backToKw pos (keywordEach [] X.env))) := by rfl) :
    QE X B W (.Call (.Attribute o m apos) [] [] pos) (aMeth C m sp 0 pm ta aNil) := by
  obtain ⟨f, fd, hF, hm, F⟩ := c.ex
  have bn := b.of' hF
  refine ⟨fun pins s σ' H R I ⟨G, σ, M, Q, E, ss, h, kq, kx⟩ => ?_⟩
  refine PySem.W.methodCall_KW (pl := pl) (thn (he.run pins s σ' H (Kv X.K G _) I ⟨G, σ, M, _, E, ss, h, fun v H' kv => kv, kx⟩) fun u s1 ⟨x, H1, I1, rx, d, M1, G1, e1, m1, r1, q1⟩ => ?_) ht
  match d, q1 with
  | .ref a, ⟨fs, h1, hl, _, q1⟩ =>
    obtain ⟨_, dx, vs, fr, eH⟩ := m1.cell a _ h1
    cases r1
    obtain rfl : u = Value.ref a := rx
    refine getmeth_ok I1 eH cl hm (fr.nolook hl) ?_
    exact PySem.W.callWith_K0 (first := [.ref a]) I1.kIn hm.kp (run_fa (us := [.ref a]) (ws := []) (zs := []) (vs := [.ref a]) (ds := [.ref a]) (es' := []) F hr hg tk bn I1 (ss.with e1 m1) (.cons rfl .nil) .nil (.cons (.ref a) .nil) .nil rfl rfl (by simpa using q1) (fun v H' kv => kq v H' (kv.lift e1)) kx)

/-! ### new instances -/
/-- a class of the module, with its __init__ -/
structure CalC (P : Program) (w : World) (K : PySem.W.Frag) (mg : Str → Option Value) (base : Heap) (k : Nat) (x : Str) (C : Addr) (qual : Str) (st : Stmt) (ps : List Str) (sp : ASp) : Prop where
  mgC : mg x = some (.ref C)
  ex : ∃ f fd, Fun K "__init__" qual st f fd ∧ Mk K C f ∧ FA P w K mg base k f fd ps sp
def aMake (C : Addr) (sp : ASp) (n j : Nat) (pm : List Nat) (ta tk : AA) : AE := fun σ M Q E => ta σ M (fun us M1 => tk σ M1 (fun ws M2 => us.length = n ∧ ws.length = j ∧ ∀ a, M2 a = none → sp (pick pm (.ref a :: us ++ ws)) (mset M2 a (.ins C [])) (fun v M3 => v = .non ∧ Q (.ref a) M3) (E σ)) E) E
theorem run_makeA {pins : List (Addr × Obj)} {s : Shared} {st : L2.St} {H : Hp} {us ws : List Value} {vs zs : List V} {G : Hp} {σ : AS} {M : Mem} {Q : DK} {E : AXs} {ds es' : List D} {R : VK} (MK : Mk X.K C f) (F : FA X.prog X.w X.K X.mg X.base k f fd ps sp) (hr : Room (k + 1) X.A) (hg : X.A.guards = some []) (tk : Takes X W)
    (hb : Bnd fd ps (n + 1) ks pm) (I : Inv X pins st H s) (ss : SS X.K B G σ M st H) (r : Vals vs us) (rz : Vals zs ws) (q1 : RpA X.K G ds vs) (q2 : RpA X.K G es' zs) (l1 : ds.length = n) (l2 : es'.length = ks.length)
    (h : ∀ a, M a = none → sp (pick pm (.ref a :: ds ++ es')) (mset M a (.ins C [])) (fun v M3 => v = .non ∧ Q (.ref a) M3) (E σ))
    (kq : ∀ v H', Kv X.K G Q v H' → R v H') (kx : ∀ c d s' H', Wx X.K B E c d s' H' → W c d s' H') : wpAny (model X.prog X.w) X.A (call (.ref C) us (ks.zip ws)) (EP X pins st R) X.xe s := (by exact HA.Wq.get : @HA.Wq (wpAny (model X.prog X.w) X.A (call (.ref C) us (ks.zip ws)) (EP X pins st R) X.xe s) (by
  have fx := I.hok.fresh (Nat.le_succ s.heap.objs.size)
  have fd0 := I.hok.fresh (Nat.le_refl s.heap.objs.size)
  have hne : s.heap.objs.size + 1 ≠ s.heap.objs.size := Nat.succ_ne_self _
  have I2 := Inv.made (C := C) I
  have m0 := (ss.mem.free fx)
  have same : Same H (upd (upd H s.heap.objs.size (.own (s.heap.objs.size + 1))) (s.heap.objs.size + 1) (.ins C s.heap.objs.size [])) := fun b o e => by
    rw [upd_ne (ne_of_none e fx), upd_ne (ne_of_none e fd0)]; exact e
  have mem1 := ss.mem.ext (same_upd (o := .own (s.heap.objs.size + 1)) fd0)
  have fx1 : upd H s.heap.objs.size (.own (s.heap.objs.size + 1)) (s.heap.objs.size + 1) = none := by rw [upd_ne hne]; exact fx
  have mem2 : SM X.K G (mset M (s.heap.objs.size + 1) (.ins C [])) _ := mem1.new (p := s.heap.objs.size + 1) (o := .ins C s.heap.objs.size []) (c := .ins C []) fx1 ⟨s.heap.objs.size, [], .nil, upd_same⟩
  have hq := h (s.heap.objs.size + 1) m0.2
  have b : BindsTo { s with heap := (s.heap.push PySem.W.emptyDict).push (PySem.W.instObj C s.heap.objs.size) } fd ⟨.ref (s.heap.objs.size + 1) :: us, ks.zip ws⟩ (ps.zip (pick pm (.ref (s.heap.objs.size + 1) :: us ++ ws))) :=
    .of_eq (hb (.ref (s.heap.objs.size + 1) :: us) ws (by rw [List.length_cons, ← r.length, ← q1.len]; omega) (by rw [← rz.length, ← q2.len]; exact l2))
  refine wpAny_call (make_map (f := f) I.kIn MK.makes MK.init (beq_iff_eq.mp MK.fn) (codeAny_mono (F.run _ X.stack _ _ _ _ (pick pm (V.ref (s.heap.objs.size + 1) :: vs ++ zs)) (pick pm (D.ref (s.heap.objs.size + 1) :: ds ++ es')) G _ _ (E σ) (hr.make C us (ks.zip ws)) (make_guards hg)
    (I2.env0.make C us (ks.zip ws)) b (pick_vals (vs := V.ref (s.heap.objs.size + 1) :: vs ++ zs) (us := Value.ref (s.heap.objs.size + 1) :: us ++ ws) (Vals.append (.cons (show RelV (V.ref (s.heap.objs.size + 1)) (Value.ref (s.heap.objs.size + 1)) from rfl) r) rz) pm) mem2 (pick_rp (RpA.app (.cons (.ref _) q1) q2) pm) hq) fun z s' hz => ?_))
  have ss2 : SS X.K B G σ (mset M (s.heap.objs.size + 1) (.ins C [])) st _ := ss.with (Same.refl G) mem2
  cases z with
  | error e => exact tk e s' (XE.of_call I2 (fun cls d H' hk => kx _ _ _ _ (Wx.of ss2 hk)) hz)
  | ok fl =>
    cases fl with
    | ret u =>
      obtain ⟨v, H', I3, rv, d, M3, G3, e3, m3, rd, ed, q3⟩ := I2.after hz
      subst ed
      cases rd
      exact ⟨rv, ⟨V.ref (s.heap.objs.size + 1), H', I3, rfl, kq _ _ ⟨.ref _, M3, G3, e3, m3, .ref _, q3⟩⟩⟩
    | next => exact False.elim hz
    | brk => exact False.elim hz
    | cont => exact False.elim hz))
theorem qe_make {qual : Str} {st : Stmt} {j : Nat} (c : CalC X.prog X.w X.K X.mg X.base k x C qual st ps sp) (hr : Room (k + 1) X.A) (hg : X.A.guards = some []) (tk : Takes X W) (b : Bds "__init__" qual st ps (n + 1) ks pm) (ha : QA X B W (e :: es) tas) (hk : QK X B W kws tks) (hgl : Gl X x := by rfl) (hj : ks.length = j := by rfl)
    (hks : (backToKw pos (keywordEach kws X.env)).filterMap (·.1) = ks := by rfl) (hall : (backToKw pos (keywordEach kws X.env)).all (·.1.isSome) = true := by rfl)
    (hdb : (x == ("__debug__" : Str)) = false := by decide) (he : starEach (e :: es) X.env = (false, eval e X.env) :: starEach es X.env := by rfl)
    (hpl : ((backTo pos (starEach (e :: es) X.env)).any (·.1) || (backToKw pos (keywordEach kws X.env)).any (·.1.isNone)) = false := by rfl) : QE X B W (.Call (.Name x p) (e :: es) kws pos) (aMake C sp n j pm tas tks) := by
  obtain ⟨f, fd, hF, MK, F⟩ := c.ex
  have bn := b.of' hF
  subst hj
  refine ⟨fun pins s st' H R I ⟨G, σ, M, Q, E, ss, h, kq, kx⟩ => ?_⟩
  refine wpAny_Call_Name_kw (ld_glob I hgl c.mgC ?_ hdb)
  refine PySem.W.callWith_KW (h₀ := X.base) I.ok.mod.kin MK.kp hall (thn (ha.run pos pins s st' H (fun vs H1 => ∃ ds M1 G1, Same G G1 ∧ SM X.K G1 M1 H1 ∧ RpA X.K G1 ds vs ∧ _) I ⟨G, σ, M, _, E, ss, h, fun vs H1 ds M1 G1 e1 m1 r1 q1 => ⟨ds, M1, G1, e1, m1, r1, q1⟩, kx⟩) fun us s1 ⟨vs, H1, I1, r, ds, M1, G1, e1, m1, r1, q1⟩ => ?_) hpl he
  refine thn (hk.run pos pins s1 st' H1 (fun vs H2 => ∃ es' M2 G2, Same G1 G2 ∧ SM X.K G2 M2 H2 ∧ RpA X.K G2 es' vs ∧ _) I1 ⟨G1, σ, M1, _, E, ss.with e1 m1, q1, fun vs H2 ds M2 G2 e2 m2 r2 q2 => ⟨ds, M2, G2, e2, m2, r2, q2⟩, kx⟩) fun ws s2 ⟨zs, H2, I2, rz, es', M2, G2, e2, m2, r2, l1, l2, q2⟩ => ⟨I2.kIn, ?_⟩
  rw [hks]
  exact run_makeA MK F hr hg tk bn I2 (ss.with (e1.trans e2) m2) r rz (r1.up e2) r2 l1 l2 q2 (fun v H' kv => kq v H' (kv.lift (e1.trans e2))) kx
theorem qe_make0 {qual : Str} {st : Stmt} {j : Nat} (c : CalC X.prog X.w X.K X.mg X.base k x C qual st ps sp) (hr : Room (k + 1) X.A) (hg : X.A.guards = some []) (tk : Takes X W) (b : Bds "__init__" qual st ps 1 ks pm) (hk : QK X B W kws tks) (hgl : Gl X x := by rfl) (hj : ks.length = j := by rfl)
    (hks : (backToKw pos (keywordEach kws X.env)).filterMap (·.1) = ks := by rfl) (hall : (backToKw pos (keywordEach kws X.env)).all (·.1.isSome) = true := by rfl)
    (hdb : (x == ("__debug__" : Str)) = false := by decide)
    (hpl : ((backTo pos (starEach [] X.env)).any (·.1) || (backToKw pos (keywordEach kws X.env)).any (·.1.isNone)) = false := by rfl) : QE X B W (.Call (.Name x p) [] kws pos) (aMake C sp 0 j pm aNil tks) := by
  obtain ⟨f, fd, hF, MK, F⟩ := c.ex
  have bn := b.of' hF
  subst hj
  refine ⟨fun pins s st' H R I ⟨G, σ, M, Q, E, ss, h, kq, kx⟩ => ?_⟩
  refine wpAny_Call_Name_kw (ld_glob I hgl c.mgC ?_ hdb)
  refine PySem.W.callWith_KW0 (h₀ := X.base) I.ok.mod.kin MK.kp hall ?_ hpl
  refine thn (hk.run pos pins s st' H (fun vs H2 => ∃ es' M2 G2, Same G G2 ∧ SM X.K G2 M2 H2 ∧ RpA X.K G2 es' vs ∧ _) I ⟨G, σ, M, _, E, ss, h, fun vs H2 ds M2 G2 e2 m2 r2 q2 => ⟨ds, M2, G2, e2, m2, r2, q2⟩, kx⟩) fun ws s2 ⟨zs, H2, I2, rz, es', M2, G2, e2, m2, r2, l1, l2, q2⟩ => ⟨I2.kIn, ?_⟩
  rw [hks]
  exact run_makeA (us := []) (vs := []) (ds := []) MK F hr hg tk bn I2 (ss.with e2 m2) .nil rz .nil r2 l1 l2 q2 (fun v H' kv => kq v H' (kv.lift e2)) kx
end
end HA
/-! A20: a module's constant tuples; the bodies of classes; small helps. -/
namespace HA
open PySem PySem.Spec L2
theorem nx_to {D' : AEn} {σ : AS} {M : Mem} (h : D'.nx σ M) : aNext D' σ M := h
/-- the constant x of the module is the tuple ds -/
def GT (K : PySem.W.Frag) (mg : Str → Option Value) (x : Str) (ds : List D) : Prop := ∃ v, mg x = some (.ref v) ∧ Rp K (fun _ => none) (.tup ds) (.ref v)
theorem same_none (G : Hp) : Same (fun _ => none) G := fun _ _ e => by cases e
theorem qe_gtup {X : Cx} {B : Hp} {W : WX} {x : Str} {ds : List D} {pos : Pos} (h : GT X.K X.mg x ds) (hg : Gl X x := by rfl) (hd : (x == ("__debug__" : Str)) = false := by decide) : QE X B W (.Name x pos) (aC (.tup ds)) := by
  obtain ⟨a, h1, h2⟩ := h
  exact qe_glob (v := .ref a) hg h1 rfl (fun G => h2.up (same_none G)) hd
/-- a written tuple -/
theorem rp_writ {K : PySem.W.Frag} {t : Addr} {ds : List D} {vs : List V} {od : Option Addr} {its : Array Value} {n : Nat} {sl : Array (Option Value)} (h : K.lookup t = some ⟨.type "tuple", od, .seq its n, sl⟩) (hz : its.size ≤ sizeLine) (hv : Vals vs its.toList) (hr : RpA K (fun _ => none) ds vs) : Rp K (fun _ => none) (.tup ds) (.ref t) :=
  .tup (.inr ⟨_, its, n, h, rfl, rfl, hz, hv⟩) hr
/-- a class's body -/
def clsB : Stmt → List Stmt
  | .ClassDef _ _ _ b _ _ _ _ _ _ _ => b
  | _ => []
section
variable {X : Cx} {B : Hp} {W : WX} {k n : Nat} {f C : Addr} {fd : FuncData} {ps ks : List Str} {sp : ASp} {pm : List Nat} {x m : Str} {p pos apos : Pos} {e o : Expr} {es : List Expr} {kws : List Keyword} {ta : AE} {tas tks : AA}
/-- o.m(k = v, ..) -/
def aMethK (C : Addr) (m : Str) (sp : ASp) (j : Nat) (pm : List Nat) (to : AE) (tk : AA) : AE := fun σ M Q E => to σ M (fun x M1 => match x with
  | .ref a => ∃ fs, M1 a = some (.ins C fs) ∧ fs.lookup m = none ∧ tk σ M1 (fun ws M2 => ws.length = j ∧ sp (pick pm ([.ref a] ++ ws)) M2 Q (E σ)) E
  | _ => False) E
theorem qe_methK {pl : Sem Bool} {qual : Str} {st : Stmt} {j : Nat} (he : QE X B W o ta) (cl : Cls X.K C) (c : CalM X.prog X.w X.K X.mg X.base k C m qual st ps sp) (hr : Room k X.A) (hg : X.A.guards = some []) (tk : Takes X W) (b : Bds m qual st ps 1 ks pm) (hk : QK X B W kws tks) (hj : ks.length = j := by rfl)
    (hks : (backToKw pos (keywordEach kws X.env)).filterMap (·.1) = ks := by rfl) (hall : (backToKw pos (keywordEach kws X.env)).all (·.1.isSome) = true := by rfl)
    (hpl : ((backTo pos (starEach [] X.env)).any (·.1) || (backToKw pos (keywordEach kws X.env)).any (·.1.isNone)) = false := by rfl)
    (ht : eval (.Call (.Attribute o m apos) [] kws pos) X.env = (do
      let ov ← eval o X.env
      standAt apos.atName
      let (f, first) ← holding [ov] (getMethod ov m pl)
      callWith pos f first (backTo pos (starEach [] X.env)) (backToKw pos (keywordEach kws X.env))) := by rfl) :
    QE X B W (.Call (.Attribute o m apos) [] kws pos) (aMethK C m sp j pm ta tks) := by
  obtain ⟨f, fd, hF, hm, F⟩ := c.ex
  have bn := b.of' hF
  subst hj
  refine ⟨fun pins s σ' H R I ⟨G, σ, M, Q, E, ss, h, kq, kx⟩ => ?_⟩
  refine PySem.W.methodCall_KW (pl := pl) (thn (he.run pins s σ' H (Kv X.K G _) I ⟨G, σ, M, _, E, ss, h, fun v H' kv => kv, kx⟩) fun u s1 ⟨x, H1, I1, rx, d, M1, G1, e1, m1, r1, q1⟩ => ?_) ht
  match d, q1 with
  | .ref a, ⟨fs, h1, hl, q1⟩ =>
    obtain ⟨_, dx, vs, fr, eH⟩ := m1.cell a _ h1
    cases r1
    obtain rfl : u = Value.ref a := rx
    refine getmeth_ok I1 eH cl hm (fr.nolook hl) ?_
    refine PySem.W.callWith_KW0 (first := [.ref a]) (h₀ := X.base) I.ok.mod.kin hm.kp hall ?_ hpl
    refine thn (hk.run pos pins s1 σ' H1 (fun vs H2 => ∃ es' M2 G2, Same G1 G2 ∧ SM X.K G2 M2 H2 ∧ RpA X.K G2 es' vs ∧ _) I1 ⟨G1, σ, M1, _, E, ss.with e1 m1, q1, fun vs H2 ds M2 G2 e2 m2 r2 q2 => ⟨ds, M2, G2, e2, m2, r2, q2⟩, kx⟩) fun ws s2 ⟨zs, H2, I2, rz, es', M2, G2, e2, m2, r2, l2, q2⟩ => ⟨I2.kIn, ?_⟩
    rw [hks]
    exact run_fa (us := [.ref a]) (vs := [.ref a]) (ds := [.ref a]) F hr hg tk bn I2 (ss.with (e1.trans e2) m2) (.cons rfl .nil) rz (.cons (.ref a) .nil) r2 rfl l2 q2 (fun v H' kv => kq v H' (kv.lift (e1.trans e2))) kx
end
end HA
/-! A21: sum, max, min, all, any, sorted of lists; in; pop(i); enumerate. -/
namespace HA
open PySem PySem.Spec L2
section
variable {X : Cx}
def cSumL : AC := fun xs M Q => match xs with
  | [x] => ∃ ns : List Int, LsAt M x (ns.map D.int) ∧ Q (.int ns.sum) M
  | _ => False
theorem cb_sumL (hc : X.calm = true) : CallB X "sum" cSumL := ⟨_, cr_sum hc, fun G M H xs vs Q R m r h k => by
  match xs, h with
  | [x], ⟨ns, h1, h2⟩ =>
    obtain ⟨v, rfl, rv⟩ := rpa1 r
    refine lsAt m rv h1 fun a ws e p t => ?_
    subst e
    have e := t.of_ints
    subst e
    exact ⟨a, ns, rfl, p, k _ _ (.here m (.int _) h2)⟩⟩
def cMaxL : AC := fun xs M Q => match xs with
  | [x] => ∃ ns : List Int, LsAt M x (ns.map D.int) ∧ 0 < ns.length ∧ ∀ m, m ∈ ns → (∀ y, y ∈ ns → y ≤ m) → Q (.int m) M
  | _ => False
theorem cb_maxL (hc : X.calm = true) : CallB X "max" cMaxL := ⟨_, cr_max hc, fun G M H xs vs Q R m r h k => by
  match xs, h with
  | [x], ⟨ns, h1, h0, h2⟩ =>
    obtain ⟨v, rfl, rv⟩ := rpa1 r
    refine lsAt m rv h1 fun a ws e p t => ?_
    subst e
    have e := t.of_ints
    subst e
    exact ⟨a, ns, rfl, p, h0, fun y hy hz => k _ _ (.here m (.int _) (h2 y hy hz))⟩⟩
def cMinL : AC := fun xs M Q => match xs with
  | [x] => ∃ ns : List Int, LsAt M x (ns.map D.int) ∧ 0 < ns.length ∧ ∀ m, m ∈ ns → (∀ y, y ∈ ns → m ≤ y) → Q (.int m) M
  | _ => False
theorem cb_minL (hc : X.calm = true) : CallB X "min" cMinL := ⟨_, cr_min hc, fun G M H xs vs Q R m r h k => by
  match xs, h with
  | [x], ⟨ns, h1, h0, h2⟩ =>
    obtain ⟨v, rfl, rv⟩ := rpa1 r
    refine lsAt m rv h1 fun a ws e p t => ?_
    subst e
    have e := t.of_ints
    subst e
    exact ⟨a, ns, rfl, p, h0, fun y hy hz => k _ _ (.here m (.int _) (h2 y hy hz))⟩⟩
def cAllL (f : List Bool → Bool) : AC := fun xs M Q => match xs with
  | [x] => ∃ bs : List Bool, LsAt M x (bs.map D.bl) ∧ Q (.bl (f bs)) M
  | _ => False
theorem cb_allL (hc : X.calm = true) : CallB X "all" (cAllL fun bs => bs.all id) := ⟨_, cr_all hc, fun G M H xs vs Q R m r h k => by
  match xs, h with
  | [x], ⟨bs, h1, h2⟩ =>
    obtain ⟨v, rfl, rv⟩ := rpa1 r
    refine lsAt m rv h1 fun a ws e p t => ?_
    subst e
    have e := t.of_bls
    subst e
    exact ⟨a, bs, rfl, p, k _ _ (.here m (.bl _) h2)⟩⟩
theorem cb_anyL (hc : X.calm = true) : CallB X "any" (cAllL fun bs => bs.any id) := ⟨_, cr_any hc, fun G M H xs vs Q R m r h k => by
  match xs, h with
  | [x], ⟨bs, h1, h2⟩ =>
    obtain ⟨v, rfl, rv⟩ := rpa1 r
    refine lsAt m rv h1 fun a ws e p t => ?_
    subst e
    have e := t.of_bls
    subst e
    exact ⟨a, bs, rfl, p, k _ _ (.here m (.bl _) h2)⟩⟩
def cSortedF : AC := fun xs M Q => match xs with
  | [x] => ∃ ns : List Int, LsAt M x (ns.map D.int) ∧ ∀ ns' : List Int, ns'.Perm ns → ns'.Pairwise (· ≤ ·) → Q (.lst (ns'.map D.int)) M
  | _ => False
theorem cb_sortedF : CallB X "sorted" cSortedF := ⟨_, cr_sortedI, fun G M H xs vs Q R m r h k => by
  match xs, h with
  | [x], ⟨ns, h1, h2⟩ =>
    obtain ⟨v, rfl, rv⟩ := rpa1 r
    refine lsAt m rv h1 fun a ws e p t => ?_
    subst e
    have e := t.of_ints
    subst e
    exact ⟨a, ns, rfl, p, fun ns' q h3 h4 hq => Kv.lstF m k (.ints ns') hq (h2 ns' h3 h4)⟩⟩
/-! ### in -/
def flat : D → Bool
  | .non => true
  | .bl _ => true
  | .int _ => true
  | .str _ => true
  | _ => false
def fv : D → V
  | .non => .non
  | .bl b => .bl b
  | .int i => .int i
  | .str x => .str x
  | _ => .non
theorem flat_rp {K : PySem.W.Frag} {G : Hp} {x : D} {v : V} (r : Rp K G x v) (h : flat x = true) : v = fv x ∧ flatV v = true := by
  cases r <;> first | exact ⟨rfl, rfl⟩ | cases h
theorem flat_rpa {K : PySem.W.Frag} {G : Hp} : ∀ {xs : List D} {vs : List V}, RpA K G xs vs → xs.all flat = true → vs = xs.map fv ∧ vs.all flatV = true
  | _, _, .nil, _ => ⟨rfl, rfl⟩
  | _, _, .cons r t, h => by
    simp only [List.all_cons, Bool.and_eq_true] at h
    obtain ⟨e1, f1⟩ := flat_rp r h.1
    obtain ⟨e2, f2⟩ := flat_rpa t h.2
    exact ⟨by rw [e1, e2]; rfl, by simp only [List.all_cons, f1, f2, Bool.and_self]⟩
def bIn (neg : Bool) : A2 := fun x y M Q => flat x = true ∧ ∃ ys, (y = .tup ys ∨ LsAt M y ys) ∧ ys.all flat = true ∧ Q (.bl (if neg then !inV (fv x) (ys.map fv) else inV (fv x) (ys.map fv))) M
theorem bIn_ok {K : PySem.W.Frag} {neg : Bool} : OkR K (bIn neg) (rIn K neg) := fun G M H x y xv yv Q R m rx ry h k => by
  obtain ⟨fx, ys, hy, fy, q⟩ := h
  obtain ⟨e1, f1⟩ := flat_rp rx fx
  rcases hy with rfl | hy
  · obtain ⟨a, vs, rfl, p, t⟩ := rp_tup ry
    obtain ⟨e2, f2⟩ := flat_rpa t fy
    subst e1 e2
    exact ⟨a, _, rfl, .inr (same_sqt m.same p), f1, f2, k _ _ (.here m (.bl _) q)⟩
  · refine lsAt m ry hy fun a vs e p t => ?_
    obtain ⟨e2, f2⟩ := flat_rpa t fy
    subst e1 e2
    exact ⟨a, _, e, .inl p, f1, f2, k _ _ (.here m (.bl _) q)⟩
theorem c_in : CmpOk X .In (bIn false) := ⟨_, op_in_seq, bIn_ok⟩
theorem c_notin : CmpOk X .NotIn (bIn true) := ⟨_, op_notIn_seq, bIn_ok⟩
theorem inV_ints (i : Int) : ∀ ns : List Int, inV (.int i) (ns.map V.int) = decide (i ∈ ns)
  | [] => by simp [inV]
  | n :: r => by
    have ih := inV_ints i r
    show ((n == i) || inV (.int i) (r.map V.int)) = decide (i ∈ n :: r)
    rw [ih]
    by_cases h : n = i
    · subst h; simp
    · have : ¬ i = n := fun e => h e.symm
      simp [h, this]
theorem fv_ints (ns : List Int) : (ns.map D.int).map fv = ns.map V.int := by simp [Function.comp_def, fv]
theorem flat_ints (ns : List Int) : (ns.map D.int).all flat = true := by simp [flat]
end
/-! ### xs.pop(i) -/
theorem RpA.eraseIdx {K : PySem.W.Frag} {G : Hp} : ∀ {ds : List D} {vs : List V} (k : Nat), RpA K G ds vs → RpA K G (ds.eraseIdx k) (vs.eraseIdx k)
  | _, _, _, .nil => .nil
  | _, _, 0, .cons _ t => t
  | _, _, k + 1, .cons h t => .cons h (RpA.eraseIdx k t)
@[simp] def mPopAt : AM := fun x ys M Q => match x, ys with
  | .ref p, [.int i] => ∃ xs k y, M p = some (.lst xs) ∧ (-(2 ^ 63) ≤ i ∧ i < 2 ^ 63) ∧ seqIndex? i xs.length = some k ∧ xs[k]? = some y ∧ Q y (mset M p (.lst (xs.eraseIdx k)))
  | _, _ => False
theorem mPopAt_ok {K : PySem.W.Frag} : OkMt K mPopAt rPopAt := fun G M H x xs xv vs Q R m rx ra h k => by
  match x, xs, h with
  | .ref p, [.int i], ⟨ys, j, y, h1, hb, h2, h3, h4⟩ =>
    obtain ⟨v, rfl, rv⟩ := rpa1 ra
    cases rv
    cases rx
    obtain ⟨ws, t, e⟩ := cellL m h1
    obtain ⟨u, hu, ru⟩ := t.get h3
    exact ⟨p, ws, i, j, u, rfl, rfl, e, hb.1, hb.2, by rw [← t.len]; exact h2, hu, Kv.wr m k h1 (t.eraseIdx j) ru h4⟩
/-! ### enumerate(list) -/
def enumD (xs : List D) : List D := (List.range xs.length).filterMap fun (i : Nat) => (xs[i]?).map fun x => D.tup [.int (i : Nat), x]
theorem enumD_eq (xs : List D) : ∀ n, n ≤ xs.length → ((List.range n).filterMap fun (i : Nat) => (xs[i]?).map fun x => D.tup [.int (i : Nat), x]).length = n ∧ ∀ i, i < n → ((List.range n).filterMap fun (i : Nat) => (xs[i]?).map fun x => D.tup [.int (i : Nat), x])[i]? = (xs[i]?).map fun x => D.tup [.int (i : Nat), x]
  | 0, _ => ⟨rfl, fun i h => by omega⟩
  | n + 1, h => by
    obtain ⟨a, b⟩ := enumD_eq xs n (by omega)
    obtain ⟨x, hx⟩ := get_lt (xs := xs) (i := n) (by omega)
    rw [List.range_succ, List.filterMap_append]
    simp only [List.filterMap_cons, List.filterMap_nil, hx, Option.map_some]
    refine ⟨by simp [a], fun i hi => ?_⟩
    by_cases e : i = n
    · subst e
      rw [List.getElem?_append_right (by omega), a, hx]; simp
    · rw [List.getElem?_append_left (by omega)]; exact b i (by omega)
theorem enumD_len (xs : List D) : (enumD xs).length = xs.length := (enumD_eq xs xs.length (Nat.le_refl _)).1
theorem enumD_get {xs : List D} {i : Nat} (h : i < xs.length) : (enumD xs)[i]? = (xs[i]?).map fun x => D.tup [.int (i : Nat), x] := (enumD_eq xs xs.length (Nat.le_refl _)).2 i h
theorem itok_enum {K : PySem.W.Frag} {G : Hp} {a : Addr} {xs : List D} {st : Mem → Prop} (h : ∀ G' M H, Same G G' → SM K G' M H → st M → ∃ vs, SqL K H a vs ∧ RpA K G' xs vs) : ItOk K G (enumD xs) st (Ite K a) where
  go := fun i G' M H hi e m s => by
    rw [enumD_len] at hi
    obtain ⟨vs, h1, h2⟩ := h G' M H e m s
    obtain ⟨v, hv⟩ := get_lt (xs := vs) (i := i) (by rw [← h2.len]; exact hi)
    exact ⟨vs, v, h1, hv⟩
  stop := fun i G' M H hi e m s => by
    rw [enumD_len] at hi
    obtain ⟨vs, h1, h2⟩ := h G' M H e m s
    exact ⟨vs, h1, by rw [← h2.len]; exact hi⟩
  yld := fun i G' M H x H' hi e m s y => by
    rw [enumD_len] at hi
    obtain ⟨vs, h1, h2⟩ := h G' M H e m s
    obtain ⟨T, u, rfl, hT, rfl, hu⟩ := y
    obtain ⟨d, hd, r⟩ := h2.getV (hu vs h1)
    have g0 := (m.free hT).1
    refine ⟨.tup [.int (i : Nat), d], _, by rw [enumD_get hi, hd]; rfl, same_upd g0, m.frozen hT, .tup (.inl upd_same) (.cons (.int _) (.cons (r.up (same_upd g0)) .nil))⟩
section
variable {X : Cx} {B : Hp} {W : WX} {e : Expr} {te : AE} {tas : AA} {pos p tpos : Pos} {elts : List Expr} {kk : Nat}
def aEnumL (t : AA) : AI := fun σ M Q E => t σ M (fun ds M1 => match ds with
  | [x] => ∃ xs, LsAt M1 x xs ∧ Q (enumD xs) (still x xs) M1
  | _ => False) E
theorem qi_enum (hg : Gl X "enumerate") (hm : X.mg "enumerate" = none) (ha : QA X B W [e] tas) (hs : starEach [e] X.env = [(false, eval e X.env)] := by rfl) : QI X B W (.Tuple elts kk tpos) (.Call (.Name "enumerate" p) [e] [] pos) (aEnumL tas) :=
  pi_imp (pi_enum hg hm ha hs) fun s H R ⟨G, σ, M, Q, E, ss, h, k, kx⟩ => ⟨G, σ, M, _, E, ss, h, fun vs H1 ds M1 G1 e1 m1 r1 q => by
    match ds, q with
    | [x], ⟨xs, h1, q⟩ =>
      obtain ⟨v, rfl, rv⟩ := rpa1 r1
      have ok : ∀ a, v = .ref a → ItOk X.K G1 (enumD xs) (still x xs) (Ite X.K a) := fun a ea => itok_enum fun G' M' H' e' m' s' => by
        have r' := rv.up e'
        match x, h1, s', r' with
        | .lst ys, h1, s', r' => cases h1; cases r' with | lst g t => cases ea; exact ⟨_, .of (m'.same _ _ g), t⟩
        | .frz ys, h1, s', r' => cases h1; cases r' with | frz g t => cases ea; exact ⟨_, m'.same.seq g, t⟩
        | .ref b, h1, s', r' => cases r'; cases ea; obtain ⟨vs, t, eH⟩ := cellL m' s'; exact ⟨vs, .of eH, t⟩
      refine lsAt m1 rv h1 fun a ws ea p t => ?_
      exact ⟨a, ws, by rw [ea], p, k _ H1 _ _ M1 G1 e1 m1 (ok a ea) q⟩, kx⟩
end
section
variable {X : Cx} {B : Hp} {W : WX} {e o : Expr} {ta : AE} {tas : AA} {apos cpos : Pos}
theorem qe_popAt (ho : QE X B W o ta) (ha : QA X B W [e] tas)
    (hbase : attributeBase o "pop" X.env (eval o X.env) = eval o X.env := by rfl)
    (hfew : ((backTo cpos (starEach [e] X.env)).all (fun x => !x.1) && (backToKw cpos (keywordEach [] X.env)).all (fun x => x.1.isSome)
      && decide (([e] : List Expr).length + ([] : List Keyword).length + (if ([] : List Keyword).isEmpty then 0 else 1) < 30)) = true := by rfl)
    (hline : (apos.endLine == cpos.line) = true := by rfl) (hs : starEach [e] X.env = (false, eval e X.env) :: starEach [] X.env := by rfl) (hplain : (backTo cpos (starEach [] X.env)).any (·.1) = false := by rfl) :
    QE X B W (.Call (.Attribute o "pop" apos) [e] [] cpos) (aMt mPopAt ta tas) := qe_lm PySem.F.slot_list_pop PySem.F.type_list_pop mt_popAt mPopAt_ok ho ha hbase hfew hline hs hplain
end
end HA
/-! A22: steps: one backward lemma for each reading. -/
namespace HA
open PySem PySem.Spec L2
section
variable {nx : AS → Mem → Prop} {rt : DK} {bk ct : AS → Mem → Prop} {xx : AXs} {D' : AEn} {σ σ' : AS} {M M1 M' : Mem} {Q : DK} {E : AXs} {t u : ASt} {ta tb tc te to tv : AE} {tas tk tr : AA} {tt tu : AT} {ti : AI} {g : AG} {d x y z : D} {i j k l n : Nat} {r r' : A2}
/-! statements -/
theorem i_seq (h : t ⟨u ⟨nx, rt, bk, ct, xx⟩, rt, bk, ct, xx⟩ σ M) : aSeq t u ⟨nx, rt, bk, ct, xx⟩ σ M := h
theorem i_nx (h : nx σ M) : aNext ⟨nx, rt, bk, ct, xx⟩ σ M := h
theorem i_brk (h : bk σ M) : aBreak ⟨nx, rt, bk, ct, xx⟩ σ M := h
theorem i_cont (h : ct σ M) : aCont ⟨nx, rt, bk, ct, xx⟩ σ M := h
theorem i_drop (h : te σ M (fun _ M' => nx σ M') xx) : aDrop te ⟨nx, rt, bk, ct, xx⟩ σ M := h
theorem i_ret (h : te σ M rt xx) : aRet te ⟨nx, rt, bk, ct, xx⟩ σ M := h
theorem i_retN (h : rt .non M) : aRetN ⟨nx, rt, bk, ct, xx⟩ σ M := h
theorem i_if (h : tt σ M (fun b M1 => (b = true → t ⟨nx, rt, bk, ct, xx⟩ σ M1) ∧ (b = false → u ⟨nx, rt, bk, ct, xx⟩ σ M1)) xx) : aIf tt t u ⟨nx, rt, bk, ct, xx⟩ σ M := h
theorem i_asg (h : te σ M (fun x M1 => g x σ M1 nx xx) xx) : aAsg te g ⟨nx, rt, bk, ct, xx⟩ σ M := h
def parK (σ : AS) (j l : Nat) (nx : AS → Mem → Prop) : List D → Mem → Prop := fun ds M1 => match ds with
  | [v, w] => nx ((σ.set j (some v)).set l (some w)) M1
  | _ => False
theorem i_par (h : tas σ M (parK σ j l nx) xx) : aPar j l tas ⟨nx, rt, bk, ct, xx⟩ σ M := h
theorem i_parK (e : (σ.set j (some x)).set l (some y) = σ') (h : nx σ' M) : parK σ j l nx [x, y] M := by subst e; exact h
def par3K (σ : AS) (j l n : Nat) (nx : AS → Mem → Prop) : List D → Mem → Prop := fun ds M1 => match ds with
  | [u, v, w] => nx (((σ.set j (some u)).set l (some v)).set n (some w)) M1
  | _ => False
theorem i_par3 (h : tas σ M (par3K σ j l n nx) xx) : aPar3 j l n tas ⟨nx, rt, bk, ct, xx⟩ σ M := h
theorem i_par3K (e : ((σ.set j (some x)).set l (some y)).set n (some z) = σ') (h : nx σ' M) : par3K σ j l n nx [x, y, z] M := by subst e; exact h
theorem i_aug (e : σ[j]? = some (some x)) (h : te σ M (fun y M1 => r x y M1 fun z M2 => agName j z σ M2 nx xx) xx) : aAug j r te ⟨nx, rt, bk, ct, xx⟩ σ M := by
  unfold aAug; rw [e]; exact h
theorem i_for (h : ti σ M (fun xs st M1 => ∃ V : Nat → AS → Mem → Prop, V 0 σ M1 ∧
  (∀ i x σ M, xs[i]? = some x → V i σ M → st M ∧ g x σ M (fun σ2 M2 => t ⟨V (i + 1), rt, nx, V (i + 1), xx⟩ σ2 M2) xx) ∧
  ∀ σ M, V xs.length σ M → st M ∧ nx σ M) xx) : aFor ti g t ⟨nx, rt, bk, ct, xx⟩ σ M := h
theorem i_fldS {K : PySem.W.Frag} {f : Str} (h : tv σ M (fun d M1 => to σ M1 (fun x M2 => fSet K f x d M2 fun M3 => nx σ M3) xx) xx) : aFldS K to tv f ⟨nx, rt, bk, ct, xx⟩ σ M := h
/-! targets -/
theorem i_name {Q' : AS → Mem → Prop} (e : σ.set j (some d) = σ') (h : Q' σ' M) : agName j d σ M Q' E := by subst e; exact h
theorem i_gtup {ds : List D} {gs : AGs} {Q' : AS → Mem → Prop} (e : ds.length = n) (h : gs ds σ M Q' E) : agTup n gs (.tup ds) σ M Q' E := ⟨e, h⟩
theorem i_gtupL {ds : List D} {gs : AGs} {Q' : AS → Mem → Prop} (e : ds.length = n) (h : gs ds σ M Q' E) : agTup n gs (.lst ds) σ M Q' E := ⟨ds, rfl, e, h⟩
theorem i_gnil {Q' : AS → Mem → Prop} (h : Q' σ M) : agNil [] σ M Q' E := h
theorem i_gcons {gs : AGs} {ds : List D} {Q' : AS → Mem → Prop} (h : g d σ M (fun σ' M' => gs ds σ' M' Q' E) E) : agCons g gs (d :: ds) σ M Q' E := h
theorem i_gsub {Q' : AS → Mem → Prop} (h : to σ M (fun o M1 => tb σ M1 (fun i M2 => sSet o i d M2 fun M3 => Q' σ M3) E) E) : agSub to tb d σ M Q' E := h
theorem i_sset {p : Addr} {xs ys : List D} {k : Int} {q : Mem → Prop} (h : M p = some (.lst xs)) (h2 : ixN xs.length k = some j) (e : xs.set j d = ys) (h3 : q (mset M p (.lst ys))) : sSet (.ref p) (.int k) d M q := ⟨xs, j, h, h2, by subst e; exact h3⟩
theorem i_fset {K : PySem.W.Frag} {f : Str} {a C : Addr} {fs fs' : List (Str × D)} {q : Mem → Prop} (h : M a = some (.ins C fs)) (cl : Cls K C) (na : NoAttr K C f) (hz : fs.length < 1000) (e : putD f d fs = fs') (h3 : q (mset M a (.ins C fs'))) : fSet K f (.ref a) d M q := ⟨C, fs, h, cl, na, hz, by subst e; exact h3⟩
/-! expressions -/
theorem i_var (e : σ[i]? = some (some d)) (h : Q d M) : aVar i σ M Q E := by show onSlot σ[i]? _; rw [e]; exact h
theorem i_c (h : Q d M) : aC d σ M Q E := h
theorem i_op (h : ta σ M (fun x M1 => tb σ M1 (fun y M2 => r x y M2 Q) E) E) : aOp r ta tb σ M Q E := h
theorem i_test {Q : Bool → Mem → Prop} (h : te σ M (fun x M' => onBl x fun k => Q k M') E) : aTest te σ M Q E := h
theorem i_onBl {b : Bool} {k : Bool → Prop} (h : k b) : onBl (.bl b) k := h
theorem i_truth {Q : Bool → Mem → Prop} (h : te σ M (fun x M' => tru x M' fun k => Q k M') E) : aTruth te σ M Q E := h
theorem i_tru_bl {b : Bool} {k : Bool → Prop} (h : k b) : tru (.bl b) M k := h
theorem i_tru_non {k : Bool → Prop} (h : k false) : tru .non M k := h
theorem i_tru_int {i : Int} {k : Bool → Prop} (h : k (i != 0)) : tru (.int i) M k := h
theorem i_tru_tup {xs : List D} {k : Bool → Prop} (h : k (!xs.isEmpty)) : tru (.tup xs) M k := h
theorem i_tru_lst {xs : List D} {k : Bool → Prop} (h : k (!xs.isEmpty)) : tru (.lst xs) M k := ⟨xs, rfl, h⟩
theorem i_tru_tI {xs : List Int} {k : Bool → Prop} (h : k (!xs.isEmpty)) : tru (tI xs) M k := by
  show k (!(xs.map D.int).isEmpty); rw [List.isEmpty_map]; exact h
theorem i_notT {Q : Bool → Mem → Prop} (h : tt σ M (fun b M' => Q (!b) M') E) : aNotT tt σ M Q E := h
theorem i_andT {Q : Bool → Mem → Prop} (h : tt σ M (fun b M1 => (b = true → tu σ M1 Q E) ∧ (b = false → Q false M1)) E) : aAndT tt tu σ M Q E := h
theorem i_orT {Q : Bool → Mem → Prop} (h : tt σ M (fun b M1 => (b = true → Q true M1) ∧ (b = false → tu σ M1 Q E)) E) : aOrT tt tu σ M Q E := h
theorem i_yes {Q : Bool → Mem → Prop} (h : Q true M) : aYes σ M Q E := h
theorem i_andV (h : ta σ M (fun x M1 => tru x M1 fun k => (k = true → tb σ M1 Q E) ∧ (k = false → Q x M1)) E) : aAndV ta tb σ M Q E := h
theorem i_orV (h : ta σ M (fun x M1 => tru x M1 fun k => (k = true → Q x M1) ∧ (k = false → tb σ M1 Q E)) E) : aOrV ta tb σ M Q E := h
theorem i_notV (h : ta σ M (fun x M1 => tru x M1 fun k => Q (.bl (!k)) M1) E) : aNotV ta σ M Q E := h
theorem i_ifE (h : tt σ M (fun b M1 => (b = true → ta σ M1 Q E) ∧ (b = false → tb σ M1 Q E)) E) : aIfE tt ta tb σ M Q E := h
def negK (Q : DK) : DK := fun x M1 => match x with
  | .int i => Q (.int (-i)) M1
  | _ => False
theorem i_negc {i : Int} (h : Q (.int (-i)) M) : aNeg (aC (.int i)) σ M Q E := h
theorem i_chain (h : ta σ M (fun x M1 => tb σ M1 (fun y M2 => r x y M2 fun z M3 => onBl z fun k => (k = true → tc σ M3 (fun w M4 => r' y w M4 Q) E) ∧ (k = false → Q (.bl false) M3)) E) E) : aChain r r' ta tb tc σ M Q E := h
theorem i_nil {Q : List D → Mem → Prop} (h : Q [] M) : aNil σ M Q E := h
theorem i_cons {Q : List D → Mem → Prop} (h : ta σ M (fun x M1 => tr σ M1 (fun xs M2 => Q (x :: xs) M2) E) E) : aCons ta tr σ M Q E := h
theorem i_tup (h : tas σ M (fun xs M1 => xs.length ≤ sizeLine ∧ Q (.tup xs) M1) E) : aTup tas σ M Q E := h
theorem i_lstF (h : tas σ M (fun xs M1 => xs.length ≤ sizeLine ∧ Q (.lst xs) M1) E) : aLstF tas σ M Q E := h
theorem i_lst (h : tas σ M (fun xs M1 => xs.length ≤ sizeLine ∧ ∀ p, M1 p = none → Q (.ref p) (mset M1 p (.lst xs))) E) : aLst tas σ M Q E := h
theorem i_sz {P : Prop} {n : Nat} (h1 : n ≤ sizeLine) (h2 : P) : n ≤ sizeLine ∧ P := ⟨h1, h2⟩
theorem i_call {sp : ASp} {n j : Nat} {pm : List Nat} (h : tas σ M (fun us M1 => tk σ M1 (fun ws M2 => us.length = n ∧ ws.length = j ∧ sp (pick pm (us ++ ws)) M2 Q (E σ)) E) E) : aCall sp n j pm tas tk σ M Q E := h
theorem i_cl {us ws ds : List D} {n j : Nat} {pm : List Nat} {sp : ASp} {X : AX} (h1 : us.length = n) (h2 : ws.length = j) (e : pick pm (us ++ ws) = ds) (h : sp ds M Q X) : us.length = n ∧ ws.length = j ∧ sp (pick pm (us ++ ws)) M Q X := ⟨h1, h2, by subst e; exact h⟩
theorem i_cb {f : AC} (h : tas σ M (fun xs M1 => f xs M1 Q) E) : aCB f tas σ M Q E := h
theorem i_mt0 {f : AM} (h : to σ M (fun x M1 => f x [] M1 Q) E) : aMt0 f to σ M Q E := h
theorem i_mt {f : AM} (h : to σ M (fun x M1 => isLs M1 x ∧ tas σ M1 (fun xs M2 => f x xs M2 Q) E) E) : aMt f to tas σ M Q E := h
theorem i_isl {p : Addr} {xs : List D} {P : Prop} (h : M p = some (.lst xs)) (q : P) : isLs M (.ref p) ∧ P := ⟨⟨xs, h⟩, q⟩
theorem i_fld {K : PySem.W.Frag} {f : Str} (h : ta σ M (fun x M1 => fGet K f x M1 Q) E) : aFld K ta f σ M Q E := h
theorem i_fget {K : PySem.W.Frag} {f : Str} {a C : Addr} {fs : List (Str × D)} (h : M a = some (.ins C fs)) (cl : Cls K C) (na : NoAttr K C f) (e : fs.lookup f = some d) (q : Q d M) : fGet K f (.ref a) M Q := ⟨C, fs, d, h, cl, na, e, q⟩
theorem i_slF {tl th : AO} (h : te σ M (fun x M1 => tl σ M1 (fun l M2 => th σ M2 (fun u M3 => sSlF x l u M3 Q) E) E) E) : aSlF te tl th σ M Q E := h
theorem i_noPart {Q : Option Int → Mem → Prop} (h : Q none M) : aNoPart σ M Q E := h
def partK (Q : Option Int → Mem → Prop) : DK := fun x M1 => match x with
  | .int i => Q (some i) M1
  | _ => False
/-! two of ints -/
theorem i_bI {C : Int → Int → Prop} {f : Int → Int → Int} {i j : Int} (c : C i j) (h : Q (.int (f i j)) M) : bI C f (.int i) (.int j) M Q := ⟨c, h⟩
theorem i_bI0 {f : Int → Int → Int} {i j : Int} (h : Q (.int (f i j)) M) : bI0 f (.int i) (.int j) M Q := h
theorem i_bC {f : Int → Int → Bool} {i j : Int} (h : Q (.bl (f i j)) M) : bC f (.int i) (.int j) M Q := h
theorem i_mulO {i j : Int} (c : MulOk i j) (h : Q (.int (i * j)) M) : bMul (.int i) (.int j) M Q := ⟨c, h⟩
theorem i_addI {i j : Int} (h : Q (.int (i + j)) M) : bAddF (.int i) (.int j) M Q := h
theorem i_addt {xs ys : List D} (c : xs.length + ys.length ≤ sizeLine) (h : Q (.tup (xs ++ ys)) M) : bAddF (.tup xs) (.tup ys) M Q := ⟨c, h⟩
theorem i_addtI {xs ys : List Int} (c : xs.length + ys.length ≤ sizeLine) (h : Q (tI (xs ++ ys)) M) : bAddF (tI xs) (tI ys) M Q := ⟨by simpa using c, by rw [← List.map_append]; exact h⟩
theorem i_addl {xs ys : List D} (c : xs.length + ys.length ≤ sizeLine) (h : Q (.lst (xs ++ ys)) M) : bAddF (.lst xs) (.lst ys) M Q := ⟨xs, ys, rfl, rfl, c, h⟩
theorem i_IaddI {i j : Int} (h : Q (.int (i + j)) M) : bIAdd (.int i) (.int j) M Q := h
/-- lists of ints, frozen -/
def lI (ns : List Int) : D := .lst (ns.map .int)
theorem i_addlI {xs ys : List Int} (c : xs.length + ys.length ≤ sizeLine) (h : Q (lI (xs ++ ys)) M) : bAddF (lI xs) (lI ys) M Q := ⟨xs.map .int, ys.map .int, rfl, rfl, by simpa using c, by rw [← List.map_append]; exact h⟩
theorem i_isN {b : Bool} (h : Q (.bl (b ^^ isNon x)) M) : bIsN b x .non M Q := h
/-! items, slices -/
theorem i_ixt {xs : List D} {i : Int} (e : atI xs i = some d) (h : Q d M) : bIx (.tup xs) (.int i) M Q := ⟨d, e, h⟩
theorem i_ixtI {xs : List Int} {i m : Int} (e : atI xs i = some m) (h : Q (.int m) M) : bIx (tI xs) (.int i) M Q := ⟨.int m, by rw [atI_map, e]; rfl, h⟩
theorem i_ixl {xs : List D} {i : Int} (e : atI xs i = some d) (h : Q d M) : bIx (.lst xs) (.int i) M Q := ⟨xs, d, rfl, e, h⟩
theorem i_ixlI {xs : List Int} {i m : Int} (e : atI xs i = some m) (h : Q (.int m) M) : bIx (lI xs) (.int i) M Q := ⟨xs.map .int, .int m, rfl, by rw [atI_map, e]; rfl, h⟩
theorem i_ixr {p : Addr} {xs : List D} {i : Int} (hp : M p = some (.lst xs)) (e : atI xs i = some d) (h : Q d M) : bIx (.ref p) (.int i) M Q := ⟨xs, d, hp, e, h⟩
theorem cut_mapI {ns : List Int} {lo hi : Option Int} : cut (ns.map D.int) lo hi = (cut ns lo hi).map D.int := by
  unfold cut; simp
theorem i_slt {xs : List D} {lo hi : Option Int} (h : Q (.tup (cut xs lo hi)) M) : sSlF (.tup xs) lo hi M Q := h
theorem i_sltI {xs : List Int} {lo hi : Option Int} (h : Q (tI (cut xs lo hi)) M) : sSlF (tI xs) lo hi M Q := by
  show Q (.tup (cut (xs.map D.int) lo hi)) M; rw [cut_mapI]; exact h
theorem i_sll {xs : List D} {lo hi : Option Int} (h : Q (.lst (cut xs lo hi)) M) : sSlF (.lst xs) lo hi M Q := ⟨xs, rfl, h⟩
theorem i_sllI {xs : List Int} {lo hi : Option Int} (h : Q (lI (cut xs lo hi)) M) : sSlF (lI xs) lo hi M Q := ⟨xs.map .int, rfl, by rw [cut_mapI]; exact h⟩
/-! built-ins -/
theorem i_lent {xs : List D} (h : Q (.int xs.length) M) : cLen [.tup xs] M Q := h
theorem i_lentI {xs : List Int} (h : Q (.int xs.length) M) : cLen [tI xs] M Q := by
  show Q (.int ((xs.map D.int).length : Nat)) M; rw [List.length_map]; exact h
theorem i_lenl {xs : List D} (h : Q (.int xs.length) M) : cLen [.lst xs] M Q := ⟨xs, rfl, h⟩
theorem i_lenlI {xs : List Int} (h : Q (.int xs.length) M) : cLen [lI xs] M Q := ⟨xs.map .int, rfl, by rw [List.length_map]; exact h⟩
theorem i_lenr {p : Addr} {xs : List D} (hp : M p = some (.lst xs)) (h : Q (.int xs.length) M) : cLen [.ref p] M Q := ⟨xs, hp, h⟩
theorem i_int {i : Int} (h : Q (.int i) M) : cInt [.int i] M Q := h
theorem i_tuplel {xs : List D} (h : Q (.tup xs) M) : cTuple [.lst xs] M Q := ⟨xs, rfl, h⟩
theorem i_tuplelI {xs : List Int} (h : Q (tI xs) M) : cTuple [lI xs] M Q := ⟨xs.map .int, rfl, h⟩
theorem i_tupler {p : Addr} {xs : List D} (hp : M p = some (.lst xs)) (h : Q (.tup xs) M) : cTuple [.ref p] M Q := ⟨xs, hp, h⟩
theorem i_tuplet {xs : List D} (h : Q (.tup xs) M) : cTuple [.tup xs] M Q := h
theorem i_tupletI {xs : List Int} (h : Q (tI xs) M) : cTuple [tI xs] M Q := h
theorem i_listF {xs : List D} (h : Q (.lst xs) M) : cListF [.tup xs] M Q := h
theorem i_listFI {xs : List Int} (h : Q (lI xs) M) : cListF [tI xs] M Q := h
theorem i_listFl {xs : List D} (h : Q (.lst xs) M) : cListF [.lst xs] M Q := ⟨xs, rfl, h⟩
theorem i_listFlI {xs : List Int} (h : Q (lI xs) M) : cListF [lI xs] M Q := ⟨xs.map .int, rfl, h⟩
theorem i_c2I {f : Int → Int → Int} {i j : Int} (h : Q (.int (f i j)) M) : c2I f [.int i, .int j] M Q := h
theorem i_c1I {f : Int → Int} {i : Int} (h : Q (.int (f i)) M) : c1I f [.int i] M Q := h
/-! methods of lists -/
theorem i_append {p : Addr} {xs : List D} (hp : M p = some (.lst xs)) (hz : xs.length < sizeLine) (h : Q .non (mset M p (.lst (xs ++ [d])))) : mAppend (.ref p) [d] M Q := ⟨xs, hp, hz, h⟩
theorem i_pop {p : Addr} {xs : List D} (hp : M p = some (.lst xs)) (e : xs[xs.length - 1]? = some d) (h : Q d (mset M p (.lst xs.dropLast))) : mPop (.ref p) [] M Q := ⟨xs, d, hp, e, h⟩
theorem i_extendt {p : Addr} {xs ys : List D} (hp : M p = some (.lst xs)) (h1 : LstAt M x ys) (hz : xs.length + ys.length ≤ sizeLine) (h : Q .non (mset M p (.lst (xs ++ ys)))) : mExtend (.ref p) [x] M Q := ⟨xs, ys, hp, h1, hz, h⟩
/-! walks -/
def rngK1 (Q : List D → (Mem → Prop) → Mem → Prop) : List D → Mem → Prop := fun xs M1 => match xs with
  | [.int j] => RngOk j ∧ Q (rangeD 0 j.toNat) (fun _ => True) M1
  | _ => False
def rngK2 (Q : List D → (Mem → Prop) → Mem → Prop) : List D → Mem → Prop := fun xs M1 => match xs with
  | [.int l, .int j] => (RngOk l ∧ RngOk j) ∧ Q (rangeD l (j - l).toNat) (fun _ => True) M1
  | _ => False
def rngK3 (Q : List D → (Mem → Prop) → Mem → Prop) : List D → Mem → Prop := fun xs M1 => match xs with
  | [.int l, .int j, .int c] => ∃ n, RgC l j c n ∧ Q (stepD l c n) (fun _ => True) M1
  | _ => False
theorem i_rg1 {Q : List D → (Mem → Prop) → Mem → Prop} (h : tas σ M (rngK1 Q) E) : aRng1 tas σ M Q E := h
theorem i_rg2 {Q : List D → (Mem → Prop) → Mem → Prop} (h : tas σ M (rngK2 Q) E) : aRng2 tas σ M Q E := h
theorem i_rg3 {Q : List D → (Mem → Prop) → Mem → Prop} (h : tas σ M (rngK3 Q) E) : aRng3 tas σ M Q E := h
theorem i_rk1 {Q : List D → (Mem → Prop) → Mem → Prop} {j : Int} (c : RngOk j) (h : Q (rangeD 0 j.toNat) (fun _ => True) M) : rngK1 Q [.int j] M := ⟨c, h⟩
theorem i_rk2 {Q : List D → (Mem → Prop) → Mem → Prop} {l j : Int} (c : RngOk l ∧ RngOk j) (h : Q (rangeD l (j - l).toNat) (fun _ => True) M) : rngK2 Q [.int l, .int j] M := ⟨c, h⟩
theorem i_rk3 {Q : List D → (Mem → Prop) → Mem → Prop} {l j c : Int} {n : Nat} (e : RgC l j c n) (h : Q (stepD l c n) (fun _ => True) M) : rngK3 Q [.int l, .int j, .int c] M := ⟨n, e, h⟩
def walkK (Q : List D → (Mem → Prop) → Mem → Prop) : DK := fun x M1 => match x with
  | .tup xs => Q xs (fun _ => True) M1
  | x => ∃ xs, LsAt M1 x xs ∧ Q xs (still x xs) M1
theorem i_walk {Q : List D → (Mem → Prop) → Mem → Prop} (h : te σ M (walkK Q) E) : aWalk te σ M Q E := h
theorem i_wkt {Q : List D → (Mem → Prop) → Mem → Prop} {xs : List D} (h : Q xs (fun _ => True) M) : walkK Q (.tup xs) M := h
theorem i_wktI {Q : List D → (Mem → Prop) → Mem → Prop} {xs : List Int} (h : Q (xs.map .int) (fun _ => True) M) : walkK Q (tI xs) M := h
theorem i_wkl {Q : List D → (Mem → Prop) → Mem → Prop} {xs : List D} (h : Q xs (fun _ => True) M) : walkK Q (.lst xs) M := ⟨xs, rfl, h⟩
theorem i_wklI {Q : List D → (Mem → Prop) → Mem → Prop} {xs : List Int} (h : Q (xs.map .int) (fun _ => True) M) : walkK Q (lI xs) M := ⟨_, rfl, h⟩
theorem i_wkr {Q : List D → (Mem → Prop) → Mem → Prop} {p : Addr} {xs : List D} (hp : M p = some (.lst xs)) (h : Q xs (fun M => M p = some (.lst xs)) M) : walkK Q (.ref p) M := ⟨xs, hp, h⟩
def revK (Q : DK) : DK := fun x M1 => match x with
  | .tup xs => Q (.tup xs.reverse) M1
  | x => ∃ xs, LsAt M1 x xs ∧ Q (.lst xs.reverse) M1
theorem i_rev (h : te σ M (revK Q) E) : aRevF te σ M Q E := h
theorem i_rvt {xs : List D} (h : Q (.tup xs.reverse) M) : revK Q (.tup xs) M := h
theorem i_rvtI {xs : List Int} (h : Q (tI xs.reverse) M) : revK Q (tI xs) M := by
  show Q (.tup (xs.map D.int).reverse) M; rw [← List.map_reverse]; exact h
theorem i_rvl {xs : List D} (h : Q (.lst xs.reverse) M) : revK Q (.lst xs) M := ⟨xs, rfl, h⟩
theorem i_rvlI {xs : List Int} (h : Q (lI xs.reverse) M) : revK Q (lI xs) M := ⟨_, rfl, by rw [← List.map_reverse]; exact h⟩
theorem i_neg (h : ta σ M (negK Q) E) : aNeg ta σ M Q E := h
theorem i_ngI {i : Int} (h : Q (.int (-i)) M) : negK Q (.int i) M := h
theorem i_part {Q : Option Int → Mem → Prop} (h : te σ M (partK Q) E) : aPart te σ M Q E := h
theorem i_ptI {Q : Option Int → Mem → Prop} {i : Int} (h : Q (some i) M) : partK Q (.int i) M := h
/-! equality -/
theorem i_eqI {b : Bool} {i j : Int} (h : Q (.bl (b ^^ decide (i = j))) M) : bEq b (.int i) (.int j) M Q := h
theorem i_eqS {b : Bool} {i j : Str} (h : Q (.bl (b ^^ decide (i = j))) M) : bEq b (.str i) (.str j) M Q := h
theorem i_eqB {b : Bool} {i j : Bool} (h : Q (.bl (b ^^ decide (i = j))) M) : bEq b (.bl i) (.bl j) M Q := h
theorem i_eqN {b : Bool} (h : Q (.bl (b ^^ true)) M) : bEq b .non .non M Q := h
theorem i_eqtI {b : Bool} {xs ys : List Int} (h : Q (.bl (b ^^ decide (xs = ys))) M) : bEq b (tI xs) (tI ys) M Q := bEq_tup h
theorem i_eqlI {b : Bool} {xs ys : List Int} (h : Q (.bl (b ^^ decide (xs = ys))) M) : bEq b (lI xs) (lI ys) M Q := bEq_lst (fun _ z => by cases z) rfl rfl h
/-! a def's exits -/
theorem i_fzI {i : Int} {k : D → Prop} (m : MLe M M') (h : k (.int i)) : fzD M M' (.int i) k := ⟨m, h⟩
theorem i_fzB {b : Bool} {k : D → Prop} (m : MLe M M') (h : k (.bl b)) : fzD M M' (.bl b) k := ⟨m, h⟩
theorem i_fzS {s : Str} {k : D → Prop} (m : MLe M M') (h : k (.str s)) : fzD M M' (.str s) k := ⟨m, h⟩
theorem i_fzN {k : D → Prop} (m : MLe M M') (h : k .non) : fzD M M' .non k := ⟨m, h⟩
theorem i_fzt {xs : List D} {k : D → Prop} (m : MLe M M') (h : k (.tup xs)) : fzD M M' (.tup xs) k := ⟨m, h⟩
theorem i_fzl {xs : List D} {k : D → Prop} (m : MLe M M') (h : k (.lst xs)) : fzD M M' (.lst xs) k := ⟨m, h⟩
theorem i_fztI {xs : List Int} {k : D → Prop} (m : MLe M M') (h : k (tI xs)) : fzD M M' (tI xs) k := ⟨m, h⟩
theorem i_fzlI {xs : List Int} {k : D → Prop} (m : MLe M M') (h : k (lI xs)) : fzD M M' (lI xs) k := ⟨m, h⟩
theorem i_fzr {p : Addr} {xs : List D} {k : D → Prop} (m : MLe M M') (h0 : M p = none) (hp : M' p = some (.lst xs)) (h : k (.lst xs)) : fzD M M' (.ref p) k := ⟨xs, h0, m, hp, h⟩
theorem i_anyrt {q : Mem → Prop} (m : MLe M M') (h : q M) : ∃ M2, MLe M2 M' ∧ q M2 := ⟨M, m, h⟩
/-! drawn numbers -/
theorem c_any {x : D} {m : Int} {X : AX} (hd : Deal M x) (hm : 0 < m ∧ m.natAbs < 2 ^ 9000) (h : ∀ r, 0 ≤ r → r < m → Q (.int r) M) : spAny [x, .int m] M Q X := ⟨x, m, rfl, hd, hm, h⟩
theorem c_ofl {x : D} {xs : List D} {X : AX} (hd : Deal M x) (h0 : xs ≠ []) (hl : xs.length < 1000000) (h : ∀ d ∈ xs, Q d M) : spOf [x, .lst xs] M Q X := ⟨x, _, xs, rfl, hd, .inr (.inl rfl), h0, hl, h⟩
theorem c_oft {x : D} {xs : List D} {X : AX} (hd : Deal M x) (h0 : xs ≠ []) (hl : xs.length < 1000000) (h : ∀ d ∈ xs, Q d M) : spOf [x, .tup xs] M Q X := ⟨x, _, xs, rfl, hd, .inl rfl, h0, hl, h⟩
end
/-! ### ways -/
class BoolP (b : Bool) (p : outParam Prop) : Prop where
  iff : b = true ↔ p
instance {p : Prop} [Decidable p] : BoolP (decide p) p := ⟨by simp⟩
instance {b : Bool} {p : Prop} [h : BoolP b p] : BoolP (true ^^ b) (¬ p) := ⟨by rw [← h.iff]; simp⟩
instance {b : Bool} {p : Prop} [h : BoolP b p] : BoolP (false ^^ b) p := ⟨by rw [← h.iff]; simp⟩
instance {b : Bool} {p : Prop} [h : BoolP b p] : BoolP (!b) (¬ p) := ⟨by rw [← h.iff]; simp⟩
instance {b c : Bool} {p q : Prop} [h : BoolP b p] [h2 : BoolP c q] : BoolP (b && c) (p ∧ q) := ⟨by rw [← h.iff, ← h2.iff]; simp⟩
instance {b c : Bool} {p q : Prop} [h : BoolP b p] [h2 : BoolP c q] : BoolP (b || c) (p ∨ q) := ⟨by rw [← h.iff, ← h2.iff]; simp⟩
instance : BoolP true True := ⟨by simp⟩
instance : BoolP false False := ⟨by simp⟩
instance {i j : Int} : BoolP (i != j) (i ≠ j) := ⟨by simp⟩
instance {i j : Nat} : BoolP (i != j) (i ≠ j) := ⟨by simp⟩
instance {α : Type} {xs : List α} : BoolP xs.isEmpty (xs = []) := ⟨by simp⟩
theorem br {b : Bool} {p A B : Prop} [h : BoolP b p] (h1 : p → A) (h2 : ¬ p → B) : (b = true → A) ∧ (b = false → B) := ⟨fun e => h1 (h.iff.mp e), fun e => h2 (fun z => by rw [h.iff.mpr z] at e; cases e)⟩
theorem brT {b : Bool} {p A B : Prop} [h : BoolP b p] (hp : p) (h1 : A) : (b = true → A) ∧ (b = false → B) := br (fun _ => h1) fun z => absurd hp z
theorem brF {b : Bool} {p A B : Prop} [h : BoolP b p] (hp : ¬ p) (h1 : B) : (b = true → A) ∧ (b = false → B) := br (fun z => absurd z hp) fun _ => h1
theorem br_ne {α : Type} [DecidableEq α] {x : α} {A B : Prop} (h : B) : ((true ^^ decide (x = x)) = true → A) ∧ ((true ^^ decide (x = x)) = false → B) := brF (by simp) h
theorem br_eq {α : Type} [DecidableEq α] {x : α} {A B : Prop} (h : A) : ((false ^^ decide (x = x)) = true → A) ∧ ((false ^^ decide (x = x)) = false → B) := brT (by simp) h
/-! ### comprehensions over known lists -/
section
variable {σ : AS} {M1 : Mem} {st : Mem → Prop} {g : AG} {tt : AT} {te : AE} {vs : List Nat} {Q : List D → Prop}
/-- each thing gives what is told of it, or nothing -/
theorem lcF_rel {α : Type} {l : List α} {enc : α → D} {xs : List D} (S : α → D → Prop) (hx : xs = l.map enc) (hst : ∀ M', MLe M1 M' → st M') (hl : l.length ≤ sizeLine)
    (body : ∀ a ∈ l, ∀ M' (P : DK) (N : Mem → Prop), MLe M1 M' → (∀ y, S a y → P y M') → g (enc a) (wipeA σ vs) M' (fun σ2 M2 => tt σ2 M2 (fun b M3 => (b = true → te σ2 M3 P EF) ∧ (b = false → N M3)) EF) EF)
    (fin : ∀ ys : List D, ys.length = l.length → (∀ (i : Nat) (a : α) (y : D), l[i]? = some a → ys[i]? = some y → S a y) → Q ys) :
    (∀ M', MLe M1 M' → st M') ∧ xs.length ≤ sizeLine ∧ ∃ R : Nat → List D → Prop, R 0 [] ∧
      (∀ i x acc M', xs[i]? = some x → acc.length ≤ i → R i acc → MLe M1 M' → g x (wipeA σ vs) M' (fun σ2 M2 => tt σ2 M2 (fun b M3 => (b = true → te σ2 M3 (fun y M4 => M4 = M' ∧ R (i + 1) (acc ++ [y])) EF) ∧ (b = false → M3 = M' ∧ R (i + 1) acc)) EF) EF) ∧ ∀ acc, R xs.length acc → Q acc := (by exact HA.Wq.get : @HA.Wq ((∀ M', MLe M1 M' → st M') ∧ xs.length ≤ sizeLine ∧ ∃ R : Nat → List D → Prop, R 0 [] ∧ (∀ i x acc M', xs[i]? = some x → acc.length ≤ i → R i acc → MLe M1 M' → g x (wipeA σ vs) M' (fun σ2 M2 => tt σ2 M2 (fun b M3 => (b = true → te σ2 M3 (fun y M4 => M4 = M' ∧ R (i + 1) (acc ++ [y])) EF) ∧ (b = false → M3 = M' ∧ R (i + 1) acc)) EF) EF) ∧ ∀ acc, R xs.length acc → Q acc) (by
  subst hx
  refine ⟨hst, by rw [List.length_map]; exact hl, fun i acc => acc.length = i ∧ ∀ (k : Nat) (a : α) (y : D), l[k]? = some a → acc[k]? = some y → S a y, ⟨rfl, fun k a y _ h => by simp at h⟩, fun i x acc M' hx _ ⟨h1, h2⟩ hM => ?_, fun acc ⟨h1, h2⟩ => fin acc (by simpa using h1) h2⟩
  rw [List.getElem?_map] at hx
  cases ha : l[i]? with
  | none => rw [ha] at hx; cases hx
  | some a =>
    rw [ha] at hx
    cases hx
    have hi := (List.getElem?_eq_some_iff.mp ha)
    refine body a (by obtain ⟨h, rfl⟩ := hi; exact List.getElem_mem h) M' _ _ hM fun y hy => ⟨rfl, by simp [h1], fun k b z hb hz => ?_⟩
    by_cases hk : k < acc.length
    · rw [List.getElem?_append_left hk] at hz; exact h2 k b z hb hz
    · rw [List.getElem?_append_right (by omega)] at hz
      by_cases e : k = i
      · subst e
        rw [ha] at hb
        cases hb
        rw [h1] at hz
        simp at hz
        subst hz; exact hy
      · rw [List.getElem?_eq_none (by simp; omega)] at hz; cases hz))
theorem lcF_map {α : Type} {l : List α} {enc f : α → D} {xs : List D} (hx : xs = l.map enc) (hst : ∀ M', MLe M1 M' → st M') (hl : l.length ≤ sizeLine)
    (body : ∀ a ∈ l, ∀ M' (P : DK) (N : Mem → Prop), MLe M1 M' → P (f a) M' → g (enc a) (wipeA σ vs) M' (fun σ2 M2 => tt σ2 M2 (fun b M3 => (b = true → te σ2 M3 P EF) ∧ (b = false → N M3)) EF) EF)
    (fin : Q (l.map f)) :
    (∀ M', MLe M1 M' → st M') ∧ xs.length ≤ sizeLine ∧ ∃ R : Nat → List D → Prop, R 0 [] ∧
      (∀ i x acc M', xs[i]? = some x → acc.length ≤ i → R i acc → MLe M1 M' → g x (wipeA σ vs) M' (fun σ2 M2 => tt σ2 M2 (fun b M3 => (b = true → te σ2 M3 (fun y M4 => M4 = M' ∧ R (i + 1) (acc ++ [y])) EF) ∧ (b = false → M3 = M' ∧ R (i + 1) acc)) EF) EF) ∧ ∀ acc, R xs.length acc → Q acc := (by exact HA.Wq.get : @HA.Wq ((∀ M', MLe M1 M' → st M') ∧ xs.length ≤ sizeLine ∧ ∃ R : Nat → List D → Prop, R 0 [] ∧ (∀ i x acc M', xs[i]? = some x → acc.length ≤ i → R i acc → MLe M1 M' → g x (wipeA σ vs) M' (fun σ2 M2 => tt σ2 M2 (fun b M3 => (b = true → te σ2 M3 (fun y M4 => M4 = M' ∧ R (i + 1) (acc ++ [y])) EF) ∧ (b = false → M3 = M' ∧ R (i + 1) acc)) EF) EF) ∧ ∀ acc, R xs.length acc → Q acc) (by
  refine lcF_rel (fun a y => y = f a) hx hst hl (fun a ha M' P N hM h => body a ha M' P N hM (h _ rfl)) fun ys h1 h2 => ?_
  have : ys = l.map f := by
    apply List.ext_getElem?
    intro i
    rw [List.getElem?_map]
    cases ha : l[i]? with
    | none => rw [List.getElem?_eq_none_iff] at ha; rw [List.getElem?_eq_none (by omega)]; rfl
    | some a =>
      obtain ⟨h, e⟩ := List.getElem?_eq_some_iff.mp ha
      have hy : i < ys.length := by omega
      have := h2 i a ys[i] ha (by simp [hy])
      rw [List.getElem?_eq_getElem hy, this]; rfl
  rw [this]; exact fin))
/-- those that are let through -/
theorem lcF_filter {α : Type} {l : List α} {enc f : α → D} {p : α → Bool} {xs : List D} (hx : xs = l.map enc) (hst : ∀ M', MLe M1 M' → st M') (hl : l.length ≤ sizeLine)
    (body : ∀ a ∈ l, ∀ M' (P : DK) (N : Mem → Prop), MLe M1 M' → (p a = true → P (f a) M') → (p a = false → N M') → g (enc a) (wipeA σ vs) M' (fun σ2 M2 => tt σ2 M2 (fun b M3 => (b = true → te σ2 M3 P EF) ∧ (b = false → N M3)) EF) EF)
    (fin : Q ((l.filter p).map f)) :
    (∀ M', MLe M1 M' → st M') ∧ xs.length ≤ sizeLine ∧ ∃ R : Nat → List D → Prop, R 0 [] ∧
      (∀ i x acc M', xs[i]? = some x → acc.length ≤ i → R i acc → MLe M1 M' → g x (wipeA σ vs) M' (fun σ2 M2 => tt σ2 M2 (fun b M3 => (b = true → te σ2 M3 (fun y M4 => M4 = M' ∧ R (i + 1) (acc ++ [y])) EF) ∧ (b = false → M3 = M' ∧ R (i + 1) acc)) EF) EF) ∧ ∀ acc, R xs.length acc → Q acc := (by exact HA.Wq.get : @HA.Wq ((∀ M', MLe M1 M' → st M') ∧ xs.length ≤ sizeLine ∧ ∃ R : Nat → List D → Prop, R 0 [] ∧ (∀ i x acc M', xs[i]? = some x → acc.length ≤ i → R i acc → MLe M1 M' → g x (wipeA σ vs) M' (fun σ2 M2 => tt σ2 M2 (fun b M3 => (b = true → te σ2 M3 (fun y M4 => M4 = M' ∧ R (i + 1) (acc ++ [y])) EF) ∧ (b = false → M3 = M' ∧ R (i + 1) acc)) EF) EF) ∧ ∀ acc, R xs.length acc → Q acc) (by
  subst hx
  refine ⟨hst, by rw [List.length_map]; exact hl, fun i acc => acc = ((l.take i).filter p).map f, rfl, fun i x acc M' hx _ h hM => ?_, fun acc h => ?_⟩
  · rw [List.getElem?_map] at hx
    cases ha : l[i]? with
    | none => rw [ha] at hx; cases hx
    | some a =>
      rw [ha] at hx
      cases hx
      obtain ⟨_, e2⟩ := split_at ha
      refine body a (by obtain ⟨h, rfl⟩ := List.getElem?_eq_some_iff.mp ha; exact List.getElem_mem h) M' _ _ hM (fun hp => ⟨rfl, ?_⟩) fun hp => ⟨rfl, ?_⟩
      · show _ = ((l.take (i + 1)).filter p).map f
        rw [e2, h]; simp [hp]
      · show _ = ((l.take (i + 1)).filter p).map f
        rw [e2, h]; simp [hp]
  · rw [List.length_map, List.take_length] at h
    rw [h]; exact fin))
end
theorem i_lcF {ti : AI} {g : AG} {tt : AT} {te : AE} {vs : List Nat} {σ : AS} {M : Mem} {Q : DK} {E : AXs} (h : ti σ M (fun xs st M1 => (∀ M', MLe M1 M' → st M') ∧ xs.length ≤ sizeLine ∧ ∃ R : Nat → List D → Prop, R 0 [] ∧
  (∀ i x acc M', xs[i]? = some x → acc.length ≤ i → R i acc → MLe M1 M' → g x (wipeA σ vs) M' (fun σ2 M2 => tt σ2 M2 (fun b M3 =>
    (b = true → te σ2 M3 (fun y M4 => M4 = M' ∧ R (i + 1) (acc ++ [y])) EF) ∧ (b = false → M3 = M' ∧ R (i + 1) acc)) EF) EF) ∧ ∀ acc, R xs.length acc → Q (.lst acc) M1) E) : aLcF ti g tt te vs σ M Q E := h
/-! folding of displays -/
theorem f0 : D.tup [] = tI [] := rfl
theorem f1 {a : Int} : D.tup [.int a] = tI [a] := rfl
theorem f2 {a b : Int} : D.tup [.int a, .int b] = tI [a, b] := rfl
theorem f3 {a b c : Int} : D.tup [.int a, .int b, .int c] = tI [a, b, c] := rfl
theorem f4 {a b c d : Int} : D.tup [.int a, .int b, .int c, .int d] = tI [a, b, c, d] := rfl
theorem f5 {a b c d e : Int} : D.tup [.int a, .int b, .int c, .int d, .int e] = tI [a, b, c, d, e] := rfl
theorem g0 : D.lst [] = lI [] := rfl
theorem g1 {a : Int} : D.lst [.int a] = lI [a] := rfl
theorem g2 {a b : Int} : D.lst [.int a, .int b] = lI [a, b] := rfl
theorem g3 {a b c : Int} : D.lst [.int a, .int b, .int c] = lI [a, b, c] := rfl
theorem g4 {a b c d : Int} : D.lst [.int a, .int b, .int c, .int d] = lI [a, b, c, d] := rfl
theorem g5 {a b c d e : Int} : D.lst [.int a, .int b, .int c, .int d, .int e] = lI [a, b, c, d, e] := rfl
theorem fmap {ns : List Int} : D.tup (ns.map D.int) = tI ns := rfl
theorem gmap {ns : List Int} : D.lst (ns.map D.int) = lI ns := rfl
theorem i_gtupI {ns : List Int} {n : Nat} {gs : AGs} {σ : AS} {M : Mem} {E : AXs} {Q' : AS → Mem → Prop} (e : ns.length = n) (h : gs (ns.map .int) σ M Q' E) : agTup n gs (tI ns) σ M Q' E := ⟨by simpa using e, h⟩
theorem i_gcI {g : AG} {gs : AGs} {a : Int} {ns : List Int} {σ : AS} {M : Mem} {E : AXs} {Q' : AS → Mem → Prop} (h : g (.int a) σ M (fun σ' M' => gs (ns.map D.int) σ' M' Q' E) E) : agCons g gs ((a :: ns).map D.int) σ M Q' E := h
theorem i_gnI {σ : AS} {M : Mem} {E : AXs} {Q' : AS → Mem → Prop} (h : Q' σ M) : agNil (([] : List Int).map D.int) σ M Q' E := h
theorem pk1 {α : Type} {a : α} : pick [0] ([a] ++ []) = [a] := rfl
theorem pk2 {α : Type} {a b : α} : pick [0, 1] ([a, b] ++ []) = [a, b] := rfl
theorem pk3 {α : Type} {a b c : α} : pick [0, 1, 2] ([a, b, c] ++ []) = [a, b, c] := rfl
theorem pk4 {α : Type} {a b c d : α} : pick [0, 1, 2, 3] ([a, b, c, d] ++ []) = [a, b, c, d] := rfl
theorem RngOk.mk {j : Int} (h : -4611686018427387904 ≤ j ∧ j < 4611686018427387904) : RngOk j := h
end HA
set_option maxHeartbeats 2000000
/-! A23: error classes one below TunnelError: __init__ says super().__init__(x) and keeps x. -/
namespace HA
open PySem PySem.Spec PySem.W PySem.Calls PyProof.Rows L2
open Builtin Builtin.ObjectAttr
def eA (f : Str) (p1 p2 : Pos) : Arguments := { posonlyargs := [], args := [{ arg := "self", annotation := none, pos := p1 }, { arg := f, annotation := none, pos := p2 }], vararg := none, kwonlyargs := [], kw_defaults := [], kwarg := none, defaults := [] }
def eB (f : Str) (a1 a2 a3 a4 a5 a6 q1 q2 q3 q4 : Pos) : List Stmt := [.Expr (.Call (.Attribute (.Call (.Name "super" a1) [] [] a2) "__init__" a3) [.Name f a4] [] a5) a6, .Assign [.Attribute (.Name "self" q1) f q2] (.Name f q3) q4]
def eS (f : Str) : Scope := { kind := .function, names := [(PySem.Str.ofString "self", .local), (f, .local), (PySem.Str.ofString "__class__", .free), (PySem.Str.ofString "super", .globalImplicit)], isGenerator := false, isCoroutine := false, more := [] }
/-- what the written part says of an error class at C, its __init__ at fI -/
structure ErrTxt (P : Program) (K : Frag) (mg : Str → Option Value) (C fI : Addr) (f : Str) : Prop where
  nf : f = "at" ∨ f = "word"
  cls : ∃ nm q N bs D sn sub ab col dd k0 k1 k2 k3 k5 nm2 q2 N2 bs2 sn2 sub2 ab2 col2 dd2 j0 j1 j2 j3 j5, K.lookup C = some (excClassObj nm q C N bs (.ref D :: ESX.exTail) true sn sub ab col dd k0 k1 k2 k3 k5 "Exception.__new__") ∧
    K.lookup D = some (excClassObj nm2 q2 D N2 bs2 ESX.exTail true sn2 sub2 ab2 col2 dd2 j0 j1 j2 j3 j5 "Exception.__new__") ∧ findIn K (.ref D) "__init__" = some (some (.builtin "Exception.__init__"))
  sa : findIn K (.ref C) "__setattr__" = some (some (.builtin "object.__setattr__"))
  ga : findIn K (.ref C) "__getattribute__" = some (some (.builtin "BaseException.__getattribute__"))
  gg : findIn K (.ref C) "__getattr__" = some none
  noN : findIn K (.ref C) f = some none
  iC : findIn K (.ref C) "__init__" = some (some (.ref fI))
  tC : typeIn K (.ref fI) = some (.type "function")
  kC : keepIn K (.ref C) = true
  exC : subIn K (.ref C) (.type "BaseException") = some true
  eeC : subIn K (.ref C) (.type "Exception") = some true
  tyC : typeIn K (.ref C) = some (.type "type")
  hdC : hasDictIn K C = true
  th : nsIn K cStatics "thirdparty.any" = some none
  sup : mg "super" = none
  top : (P.main.scope.names.lookup ("super" : Str)).isSome = false
  fn : ∃ (oc : Value) (od : Option Addr) (kV doc pm : Value) (an : Option Addr) (cda cc : Addr) (ct : Value) (osl : Array (Option Value)) (qual : Str) (p1 p2 a1 a2 a3 a4 a5 a6 q1 q2 q3 q4 : Pos) (ccl cl : Value) (cdd cld : Option Addr) (ccs csl : Array (Option Value)) (vs : Array Value) (file : Str) (tf : Tok),
    K.lookup fI = some ⟨oc, od, .func (fnX "__init__" qual (eA f p1 p2) (eB f a1 a2 a3 a4 a5 a6 q1 q2 q3 q4) (eS f) [("__class__", cc)] .none kV doc pm an (.ref cda) ct), osl⟩ ∧ codeIn K (.ref cda) qual = true ∧
    K.lookup cda = some ⟨ccl, cdd, .fields vs, ccs⟩ ∧ vs[2]? = some (.str file tf) ∧ (a3.endLine == a5.line) = true ∧ ((P.main.file : Str) == file) = true ∧ K.lookup cc = some ⟨cl, cld, .cell (some (.ref C)), csl⟩
structure MadeInit (h h' : Heap) (x C dx t1 : Addr) (f : Str) (v : Value) : Prop where
  keep : ∀ b o, b ≠ x → h.get? b = some o → h'.get? b = some o
  obj : h'.get? x = some { cls := .ref C, dict := some dx, data := .fields #[.ref t1, .none, .none, .none, .bool false, .none] }
  dbig : h.objs.size ≤ dx
  dne : dx ≠ x
  ns : h'.Ns1 dx (fun y => if y = f then some v else none)
section
variable {prog : Program} {w : World} {A : Around} {E : Value → Shared → Prop} {R : Result → Shared → Prop} {s : Shared} {K : Frag} {mg mb : Str → Option Value} {C fI : Addr} {f : Str}
/-- the store, past own classes and Exception's -/
theorem osa_own {name : Str} {tk : Tok} {v : Value} {x C D : Addr} {fv : Array Value} {cd : ClassData} {hp : Heap} {g : Array GenState} {d : Drawn} {t : Nat} {os : OsState}
    (X : K.In hp) (hx : hp.get? x = some { cls := .ref C, data := .fields fv }) (hcd : clsIn K C = some cd) (hm : cd.mro = .ref C :: .ref D :: ESX.exTail) (hh : cd.hasDict = true) (ha : findIn K (.ref C) name = some none)
    (hq : ∀ h' tk' dx, (∀ b o, b ≠ x → hp.get? b = some o → h'.get? b = some o) → hp.objs.size ≤ dx → dx ≠ x → h'.get? x = some { cls := .ref C, dict := some dx, data := .fields fv } →
      h'.Ns1 dx (fun y => if y = name then some v else none) → R (.ok (.ret .none)) ⟨h', g, d, tk', os⟩) :
    codeAny (model prog w) A (.call (.builtin "object.__setattr__") ⟨[.ref x, .str name tk, v], []⟩) R ⟨hp, g, d, t, os⟩ := by
  have I : InstAt hp x { cls := .ref C, data := .fields fv } C none := ⟨hx, rfl, rfl, trivial⟩
  have SF := F.store_object
  have hcon : cd.mro.contains (.type "object") = true := by rw [hm]; rw [List.contains_cons, List.contains_cons]; simp
  have hxs : x ≠ hp.objs.size := Nat.ne_of_lt (Heap.lt_size hx)
  have sub : Looks (model prog w) hp (isInstance (.ref x) (.type "object")) true := I.type.andThen (looks_mroIn X (by unfold mroIn; rw [hcd, Option.bind_some, if_neg (by rw [hm]; simp), hcon]))
  refine codeAny_call_builtin SF.slot.plain SF.entry (@check_slot (model prog w) _ _ ⟨hp, g, d, t, os⟩ "object.__setattr__" "object" "__setattr__" (.ref x) [.str name tk, v] [] _ SF.kind SF.split sub (SF.args (.ref x) (.str name tk) v) ?_)
  have mro : Looks (model prog w) hp (mroOf (.ref C)) cd.mro := (looks_clsIn X hcd).andThen .now
  have pass : refuseLoop (.ref x) "__setattr__" cd.mro = pure () := by rw [hm, refuseLoop_ref, refuseLoop_ref]; exact F.store_Exception.passes _
  have cl0 : Looks (model prog w) hp (classData C) cd := looks_clsIn X hcd
  rw [osa_eq, refuse_eq]
  refine wpAny_bind (wpAny_bind (I.type.at (wpAny_bind (mro.at ?_))))
  rw [pass]
  refine wpAny_pure (wpAny_bind (I.type.at (wpAny_bind ((looks_findIn X ha).at (wpAny_bind ((show Looks (model prog w) hp (storeTaker? none) none from .now).at ?_))))))
  show wpAny _ _ (storeInOwnDict (.ref x) (.ref C) (.str name tk) name v false) _ _ _
  obtain ⟨nm, bs, mr, ns, qn, hd, sn, sb, ab, col, del⟩ := cd
  dsimp only at hh
  subst hh
  unfold storeInOwnDict ownDictForStores
  repeat (first | with_reducible refine HandSPX.store_in_new ?_ ?_ | with_reducible refine wpAny_loadPart_at hx ?_ | with_reducible refine cl0.at ?_ | wp_step)
  · exact ⟨_, #[], _, (Heap.get?_update_ne _ _ _ _ hxs.symm).trans (Heap.get?_push_at rfl rfl), rfl, fun e he => absurd he (by simp), fun _ => rfl⟩
  · intro h' tk' hn' hs
    have old : (hp.push { cls := .type "dict", data := .dict #[] }).get? x = some { cls := .ref C, data := .fields fv } := Heap.get?_push_of_some _ hx
    refine hq h' tk' hp.objs.size (fun b o hb ho => ?_) (Nat.le_refl _) hxs.symm ((hs.2 x hxs).trans (Heap.get?_update_self _ old rfl)) hn'
    exact (hs.2 b (Nat.ne_of_lt (Heap.lt_size ho))).trans ((Heap.get?_update_ne _ _ _ _ hb).trans (Heap.get?_push_of_some _ ho))
theorem err_init (T : ErrTxt prog K mg C fI f) {x t0 : Addr} {v : Value} (X : K.In s.heap) (hg : s.heap.Ns mainGlobals mg) (hb : s.heap.Ns builtinsNs mb) (hbb : ∀ x : Str, x ≠ "__name__" → mb x = bootBuiltins x) (hlim : s.heap.NoLimit) (hx : s.heap.get? x = some (HandSPX.excO C t0)) (hnx : K.lookup x = none) (hroom : A.depth < recursionLimit)
    (hq : ∀ h' tk dx t1, MadeInit s.heap h' x C dx t1 f v → R (.ok (.ret .none)) { s with heap := h', toks := tk }) :
    codeAny (model prog w) A (.call (.ref fI) ⟨[.ref x, v], []⟩) R s := by
  obtain ⟨oc, od, kV, doc, pm, an, cda, cc, ct, osl, qual, p1, p2, a1, a2, a3, a4, a5, a6, q1, q2, q3, q4, ccl, cl, cdd, cld, ccs, csl, vs, file, tf, ho, hcd, hcda, hvs, hln, hfile, hcc⟩ := T.fn
  obtain ⟨nm, q, N, bs, D, sn, sub, ab, col, dd, k0, k1, k2, k3, k5, nm2, q2', N2, bs2, sn2, sub2, ab2, col2, dd2, j0, j1, j2, j3, j5, hC, hD, hDi⟩ := T.cls
  have hcl : clsIn K C = some { name := nm, bases := bs, mro := .ref C :: .ref D :: ESX.exTail, ns := N, qualname := q, hasDict := true, slotNames := sn, subclasses := sub, abstract := ab, collection := col, hasDel := false } := by unfold clsIn; rw [hC] <;> rfl
  have hal : alongIn K "__init__" (.ref D :: ESX.exTail) = some (some (.builtin "Exception.__init__")) := by
    have e := hDi
    unfold findIn at e
    dsimp only at e
    rw [hD] at e
    exact e
  refine ks_codeAny_call_defAt (binds := [("self", .ref x), (f, v)]) hroom (X _ _ ho) rfl hlim (codeRec_of X hcd) rfl (BindsTo.of_eq ?_) ?_ ?_ (fun h₁ hn k => ?_)
  · rcases T.nf with rfl | rfl <;> rfl
  · intro y hy; have hy : y ∈ (eS f).names := hy; simp only [eS, List.mem_cons, List.not_mem_nil, or_false] at hy; rcases hy with rfl | rfl | rfl | rfl <;> (intro z; cases z)
  · rcases T.nf with rfl | rfl <;> (intro y hy; simp only [List.mem_cons, List.not_mem_nil, or_false] at hy; rcases hy with rfl | rfl <;> rfl)
  obtain ⟨hp, g, dr, tk, os⟩ := s
  dsimp only at hn k ⊢
  have X1 : K.In h₁ := X.keeps k
  have hx1 := k _ _ hx
  have fself : List.lookup (PySem.Str.ofString "self") (List.reverse [((PySem.Str.ofString "self"), Value.ref x), (f, v)]) = some (.ref x) := by rcases T.nf with rfl | rfl <;> rfl
  have ff : List.lookup f (List.reverse [((PySem.Str.ofString "self"), Value.ref x), (f, v)]) = some v := by rcases T.nf with rfl | rfl <;> rfl
  have fdb : (f == ("__debug__" : Str)) = false := by rcases T.nf with rfl | rfl <;> decide
  generalize hfd : fnX "__init__" qual (eA f p1 p2) (eB f a1 a2 a3 a4 a5 a6 q1 q2 q3 q4) (eS f) [("__class__", cc)] .none kV doc pm an (.ref cda) ct = fd at *
  have ek : ∀ y, (callEnv fd hp.objs.size fI).kindOf y = (eS f).names.lookup y := by subst hfd; intro y; rfl
  have ksuper : (callEnv fd hp.objs.size fI).kindOf "super" = some .globalImplicit := by rw [ek]; rcases T.nf with rfl | rfl <;> rfl
  have kclass : (callEnv fd hp.objs.size fI).kindOf "__class__" = some .free := by rw [ek]; rcases T.nf with rfl | rfl <;> rfl
  have kself : (callEnv fd hp.objs.size fI).kindOf "self" = some .local := by rw [ek]; rfl
  have kf : (callEnv fd hp.objs.size fI).kindOf f = some .local := by rw [ek]; rcases T.nf with rfl | rfl <;> rfl
  have kk : (callEnv fd hp.objs.size fI).scope.kind = .function := by subst hfd; rfl
  have hgl : (callEnv fd hp.objs.size fI).globals = mainGlobals := by subst hfd; rfl
  have hbl : (callEnv fd hp.objs.size fI).builtins = builtinsNs := by subst hfd; rfl
  have hlo : (callEnv fd hp.objs.size fI).locals = hp.objs.size := by subst hfd; rfl
  have hcl2 : (callEnv fd hp.objs.size fI).cells = [(PySem.Str.ofString "__class__", cc)] := by subst hfd; rfl
  have hint : interactive (callEnv fd hp.objs.size fI) = false := by subst hfd; rfl
  refine ks_wpAt_execs_cons (ks_wpAt_Expr_any (ks_wpAt_MethodCall (pl := (do return (← importBound (.Call (.Name "super" a1) [] [] a2) (callEnv fd hp.objs.size fI)).getD true)) ?_ ?_) hint)
  rotate_left
  · show (do let ov ← attributeBase (.Call (.Name "super" a1) [] [] a2) "__init__" (callEnv fd hp.objs.size fI) (PySem.eval (.Call (.Name "super" a1) [] [] a2) (callEnv fd hp.objs.size fI)); standAt a3.atName; methodCall (.Call (.Name "super" a1) [] [] a2) "__init__" a3 a5 (callEnv fd hp.objs.size fI) ov 1 (backTo a5 (starEach [.Name f a4] (callEnv fd hp.objs.size fI))) []) = _
    unfold methodCall methodCallPos
    simp only [hln, Bool.or_true, if_true]
    rfl
  refine ks_wpAt_super_base (ar := { arg := "self", annotation := none, pos := p1 }) ksuper kclass rfl rfl (X1 _ _ ho) rfl (by subst hfd; rfl) (by subst hfd; rfl) (X1 _ _ hcda) rfl hvs hfile T.top ?_
  refine ks_loadName_global kk ksuper (loadGlobal_builtin (by rw [hgl]; exact hg.keeps k) T.sup (by rw [hbl]; exact hb.keeps k) ((hbb _ (by decide)).trans (by decide +kernel)) ⟨rfl, ?_⟩)
  refine wpAny_loadName_free kk kclass (by rw [hcl2]; rfl) ⟨_, X1 _ _ hcc, rfl⟩ ?_
  refine wpAny_loadName_local kk kself (by rw [hlo]; exact hn) fself ?_
  refine ks_wpAny_isType_cls (X1 _ _ hC) rfl ⟨rfl, ?_⟩
  have I1 : InstAt h₁ x (HandSPX.excO C t0) C none := ⟨hx1, rfl, rfl, trivial⟩
  refine ks_wpAny_call_super (X1 _ _ hC) rfl hx1 rfl (fun c e => by cases e) (looks_mroIn X1 (by unfold mroIn; rw [hcl]; simp)) (fun h2 e2 k2 => ?_)
  have X2 : K.In h2 := X1.keeps k2
  have hx2 := k2 _ _ hx1
  have I2 : InstAt h2 x (HandSPX.excO C t0) C none := ⟨hx2, rfl, rfl, trivial⟩
  refine ESX.getMethod_super e2 (looks_opaque X2 T.th) (l₀ := .ref C :: .ref D :: ESX.exTail) ((looks_clsIn X2 hcl).andThen .now) (ESX.drop_own C _) X2 hal ?_ (by decide) (I2.type.andThen (looks_subIn X2 T.eeC)) ?_
  · intro z; rw [z] at hnx; rw [hC] at hnx; cases hnx
  have k3 : ∀ b o, h2.get? b = some o → (h2.push (ESX.bw x)).get? b = some o := fun b o e => Heap.get?_push_of_some _ e
  have hu3 : (h2.push (ESX.bw x)).get? h2.objs.size = some (ESX.bw x) := Heap.get?_push_at rfl rfl
  have hn3 : (h2.push (ESX.bw x)).Ns hp.objs.size (fun y => List.lookup y (List.reverse [((PySem.Str.ofString "self"), Value.ref x), (f, v)])) := (hn.keeps k2).keeps k3
  refine ESX.callWith_bound (x := x) ?_
  refine spliced_more (wpAny_Name (wpAny_loadName_local kk kf (by rw [hlo]; exact hn3) ff (spliced_none ⟨hu3, ?_⟩)) fdb)
  refine ESX.call_bw (k3 _ _ (X2 _ _ hC)) (k3 _ _ hx2) hu3 (by show 1 ≤ sizeLine; rw [sizeLine_eq]; decide) fun h4 t1 k4 hx4 => ?_
  have nh : ∀ b o, h₁.get? b = some o → b ≠ x → h4.get? b = some o := fun b o e hb => k4 b o hb (k3 _ _ (k2 _ _ e))
  have X4 : K.In h4 := fun b o e => nh b o (X1 _ _ e) (fun z => by rw [z, hnx] at e; cases e)
  have hxL : hp.objs.size ≠ x := Nat.ne_of_gt (Heap.lt_size hx)
  have hn4 : h4.Ns hp.objs.size (fun y => List.lookup y (List.reverse [((PySem.Str.ofString "self"), Value.ref x), (f, v)])) := hn3.at fun o e => k4 _ _ hxL e
  refine wpAt_of_wpAny (wpAny_execs_cons (plainObj_wpAny_Assign_Attribute ?_ ?_))
  · refine wpAny_Name (wpAny_loadName_local kk kf (by rw [hlo]; exact hn4) ff ?_) fdb
    refine wpAny_Name (wpAny_loadName_local kk kself (by rw [hlo]; exact hn4) fself ?_) (by decide)
    refine set_plain X4 (ox := HandSPX.excO C t1) (od := none) ⟨hx4, rfl, rfl, trivial⟩ T.sa ?_
    refine osa_own X4 hx4 hcl rfl rfl T.noN (fun h5 tk5 dx k5 dn dne hx5 hn5 => ?_)
    show wpAny _ _ (execs _ _) _ _ _
    have z4 : hp.objs.size < h4.objs.size := hn4.lt
    exact wpAny_execs_nil (hq h5 tk5 dx t1 ⟨fun b o hb e => k5 b o hb (nh b o (k b o e) hb), hx5, Nat.le_of_lt (Nat.lt_of_lt_of_le z4 dn), dne, hn5⟩)
  · rfl
theorem tail_same {D : Addr} (X : String) : (Value.ref D :: ESX.exTail).contains (.type X) = ESX.exTail.contains (.type X) := by
  rw [List.contains_cons]; rfl
/-- a made one -/
structure MadeErr (h h' : Heap) (e C d : Addr) (f : Str) (v : Value) : Prop where
  keep : ∀ b o, h.get? b = some o → h'.get? b = some o
  new : h.objs.size ≤ e
  obj : ∃ oe vs, h'.get? e = some oe ∧ oe.cls = .ref C ∧ oe.dict = some d ∧ oe.data = .fields vs ∧ vs[1]? = some .none
  dbig : h.objs.size ≤ d
  dne : d ≠ e
  ns : h'.Ns1 d (fun y => if y = f then some v else none)
theorem err_made (T : ErrTxt prog K mg C fI f) {v : Value} (X : K.In s.heap) (hg : s.heap.Ns mainGlobals mg) (hb : s.heap.Ns builtinsNs mb) (hbb : ∀ x : Str, x ≠ "__name__" → mb x = bootBuiltins x) (hlim : s.heap.NoLimit) (hroom : A.depth + 1 < recursionLimit)
    (hq : ∀ h' tk e d, MadeErr s.heap h' e C d f v → R (.ok (.ret (.ref e))) { s with heap := h', toks := tk }) :
    codeAny (model prog w) A (.call (.ref C) ⟨[v], []⟩) R s := by
  obtain ⟨nm, q, N, bs, D, sn, sub, ab, col, dd, k0, k1, k2, k3, k5, nm2, q2', N2, bs2, sn2, sub2, ab2, col2, dd2, j0, j1, j2, j3, j5, hC, hD, hDi⟩ := T.cls
  obtain ⟨hp, g, dr, tk, os⟩ := s
  dsimp only at hq ⊢
  have k : ∀ b o, hp.get? b = some o → ((hp.push (kdv_tup [v])).push (HandSPX.excO C hp.objs.size)).get? b = some o := fun b o e => Heap.get?_push_of_some _ (Heap.get?_push_of_some _ e)
  have hget : ((hp.push (kdv_tup [v])).push (HandSPX.excO C hp.objs.size)).get? (hp.objs.size + 1) = some (HandSPX.excO C hp.objs.size) := by heap_get
  have hnx : K.lookup (hp.objs.size + 1) = none := by
    cases e : K.lookup (hp.objs.size + 1) with
    | none => rfl
    | some o => exact absurd (Nat.lt_of_succ_lt (Heap.lt_size (show hp.get? (hp.objs.size + 1) = some o from X _ _ e))) (Nat.lt_irrefl _)
  refine HandSPX.call_own F.excBase_Exception (fun Y => tail_same Y) (X _ _ hC) (looks_findIn X T.iC) (fun self => bind_fn X self T.tC) (by show 1 ≤ sizeLine; rw [sizeLine_eq]; decide) ?_
  refine err_init (s := ⟨(hp.push (kdv_tup [v])).push (HandSPX.excO C hp.objs.size), g, dr, tk, os⟩) T (X.keeps k) (hg.keeps k) (hb.keeps k) hbb (hlim.keeps k) hget hnx ?_ fun h' tk' dx t1 ⟨k', hx, dn, dne, hns⟩ => ?_
  · show A.depth + 1 < recursionLimit
    exact hroom
  · have old : ∀ b o, hp.get? b = some o → h'.get? b = some o := fun b o e => k' b o (Nat.ne_of_lt (Nat.lt_succ_of_lt (Heap.lt_size e))) (k b o e)
    have z : hp.objs.size + 1 + 1 ≤ dx := by
      have q := dn
      rw [Heap.size_push, Heap.size_push] at q
      exact q
    exact ⟨rfl, hq h' tk' (hp.objs.size + 1) dx ⟨old, Nat.le_succ _, ⟨_, _, hx, rfl, rfl, rfl, rfl⟩, Nat.le_trans (Nat.le_trans (Nat.le_succ _) (Nat.le_succ _)) z, dne, hns⟩⟩
end
section
variable {X : Cx} {C fI : Addr} {f : Str}
theorem relO_one {v : V} {v' : Value} (r : RelV v v') (y : Str) : RelO (List.lookup y [(f, v)]) (if y = f then some v' else none) := (by exact HA.Wq.get : @HA.Wq (RelO (List.lookup y [(f, v)]) (if y = f then some v' else none)) (by
  by_cases hw : y = f
  · subst hw
    rw [if_pos rfl]
    have q : List.lookup y [(y, v)] = some v := by simp [List.lookup]
    rw [q]; exact r
  · rw [if_neg hw]
    have qw : (y == f) = false := by simpa using hw
    have q2 : List.lookup y [(f, v)] = none := by simp [List.lookup, qw]
    rw [q2]; trivial))
/-- C(e) -/
def tMkErr (C : Addr) (f : Str) (ta : TA) : L2.St → Hp → XK → Prop := fun σ H Q => ta σ H fun vs H1 => ∃ v, vs = [v] ∧ ∀ d, H1 d = none → Q (.ref C) (some d) (upd H1 d (.xd [(f, v)]))
theorem pmk_err {x : Str} {a : PySem.Expr} {ta : TA} {p pos : Pos} {k : Nat} (T : ErrTxt X.prog X.K X.mg C fI f) (gC : X.mg x = some (.ref C)) (hr : Room k X.A) (hk : 1 ≤ k) (ha : PA X [a] ta) (hg : Gl X x := by rfl) (hdb : (x == ("__debug__" : Str)) = false := by decide)
    (he : starEach (a :: []) X.env = (false, PySem.eval a X.env) :: starEach [] X.env := by rfl) (hpl : (backTo pos (starEach [] X.env)).any (·.1) = false := by rfl) :
    PMk X (.Call (.Name x p) [a] [] pos) (tMkErr C f ta) := by
  intro pins s σ H Q I h
  refine wpAny_Call_Name_kw (ld_glob I hg gC ?_ hdb)
  refine callWith_K (h₀ := X.base) I.ok.mod.kin T.kC (thn (ha.run pos pins s σ H _ I h) fun us s1 hh => ?_) he hpl
  obtain ⟨vs, H1, I1, r1, v, ev, q1⟩ := hh
  subst ev
  refine ⟨I1.kIn, ?_⟩
  cases r1 with
  | cons rv rn =>
    rename_i v' us'
    cases rn
    show wpAny _ _ (call (.ref C) [v']) _ _ _
    have hlim := I1.nolimit
    obtain ⟨mb, hb, hbb⟩ := I1.ok.mod.blt
    have kb : ∀ b o, X.base.get? b = some o → s1.heap.get? b = some o := fun b o e => I1.bk b o e
    obtain ⟨hp, g, dr, tk, os⟩ := s1
    refine wpAny_call (err_made T I1.kIn (I1.ok.mod.glob.keeps kb) (hb.keeps kb) hbb hlim (by have := hr.dp; omega) fun h' tk' e d M => ?_)
    show MkP X pins σ Q (.ref e) ⟨h', g, dr, tk', os⟩
    obtain ⟨oe, fv, hoe, hc, hd, hdat, h1⟩ := M.obj
    have hns := M.ns
    obtain ⟨G', g1, g2⟩ := restrict h' fun b => decide (b ≠ e)
    have gk : ∀ b, b ≠ e → G'.get? b = h'.get? b := fun b hb => g1 b (decide_eq_true hb)
    have ge : G'.get? e = none := g2 e (by simp)
    have old : ∀ b o, hp.get? b = some o → G'.get? b = some o := fun b o q => (gk b (Nat.ne_of_lt (Nat.lt_of_lt_of_le (Heap.lt_size q) M.new))).trans (M.keep b o q)
    have ob : ObjOk X.prog X.w (upd H1 d (.xd [(f, v)])) G' d (.xd [(f, v)]) := ⟨_, hns.at (fun o q => (gk d M.dne).trans q), fun y => relO_one rv y⟩
    have J : Inv X pins σ (upd H1 d (.xd [(f, v)])) ⟨G', g, dr, tk', os⟩ := I1.laid (t' := tk') old M.dbig ob
    refine ⟨e, oe, fv, ⟨G', g, dr, tk', os⟩, _, .ref C, some d, rfl, J, fun b o q => ?_, ge, hoe, ⟨hc, hd⟩, hdat, h1, ?_, rfl, I1.bare, raises_own T.exC T.tyC, q1 d (I1.hok.fresh M.dbig)⟩
    · by_cases hb : b = e
      · have q' : G'.get? b = some o := q
        rw [hb, ge] at q'; cases q'
      · exact (gk b hb).symm.trans q
    · rw [upd_ne (Ne.symm M.dne)]
      exact I1.hok.fresh M.new
end
end HA
set_option maxHeartbeats 2000000
/-! A24: raise, try .. except over trees. -/
namespace HA
open PySem PySem.Spec L2
section
variable {X : Cx} {B : Hp} {W : WX} {C fI : Addr} {f : Str} {te : AE} {tas : AA}
/-! ### raise C(e) -/
@[simp] def aRaise (C : Addr) (f : Str) (te : AE) : ASt := fun D σ M => te σ M (fun d M1 => D.xx σ C [(f, d)] M1) D.xx
theorem qs_raise {x : Str} {a : PySem.Expr} {p pos pos2 : Pos} {k : Nat} (hc : X.calm = true) (T : ErrTxt X.prog X.K X.mg C fI f) (gC : X.mg x = some (.ref C)) (hr : Room k X.A) (hk : 1 ≤ k) (tk : Takes X W) (ha : QE X B W a te) (hg : Gl X x := by rfl) (hdb : (x == ("__debug__" : Str)) = false := by decide)
    (he : starEach (a :: []) X.env = (false, PySem.eval a X.env) :: starEach [] X.env := by rfl) (hpl : (backTo pos (starEach [] X.env)).any (·.1) = false := by rfl) :
    QS X B W (.Raise (some (.Call (.Name x p) [a] [] pos)) none pos2) (aRaise C f te) := by
  refine ps_imp (ps_raise hc tk (pmk_err T gC hr hk (qa_cons ha qa_nil he) hg hdb he hpl)) fun Dc s H ⟨G, σ, M, D, ss, h, kn, kr, kb, kc, kx⟩ => ?_
  have e : (fun (x : HA.D) (M1 : Mem) => ∃ d, [x] = [d] ∧ D.xx σ C [(f, d)] M1) = (fun d M1 => D.xx σ C [(f, d)] M1) := by
    funext x M1
    apply propext
    constructor
    · rintro ⟨d, e, q⟩; cases e; exact q
    · intro q; exact ⟨x, rfl, q⟩
  refine ⟨G, σ, M, (fun ds M1 => ∃ d, ds = [d] ∧ D.xx σ C [(f, d)] M1), D.xx, ss, (by show te σ M (fun (x : HA.D) (M1 : Mem) => ∃ d, [x] = [d] ∧ D.xx σ C [(f, d)] M1) D.xx; rw [e]; exact h), fun vs H1 ds M1 G1 e1 m1 r1 q1 => ?_, kx⟩
  obtain ⟨d, rfl, q⟩ := q1
  obtain ⟨v, rfl, rv⟩ := rpa1 r1
  refine ⟨v, rfl, fun dd hd => kx _ _ _ _ ⟨C, [(f, d)], dd, [(f, v)], σ, M1, G1, rfl, rfl, ?_, upd_same, .cons ⟨rfl, rv⟩ .nil, q⟩⟩
  have s1 := ss.with e1 m1
  exact ⟨s1.base, s1.mem.ext (same_upd hd), s1.len, s1.sl⟩
/-! ### try -/
theorem SM.pin {K : PySem.W.Frag} {G H : Hp} {M : Mem} {a : Addr} {fs : List (Str × V)} (s : SM K G M H) (h : H a = some (.xd fs)) : Same G (upd G a (.xd fs)) ∧ SM K (upd G a (.xd fs)) M H := (by exact HA.Wq.get : @HA.Wq (Same G (upd G a (.xd fs)) ∧ SM K (upd G a (.xd fs)) M H) (by
  have g : Same G (upd G a (.xd fs)) := fun b u e => by
    by_cases hb : b = a
    · subst hb
      have := s.same _ _ e
      rw [h] at this
      rw [upd_same]; exact this
    · rw [upd_ne hb]; exact e
  refine ⟨g, fun b u e => ?_, fun b c e => ?_⟩
  · by_cases hb : b = a
    · subst hb; rw [upd_same] at e; rw [h]; exact e
    · rw [upd_ne hb] at e; exact s.same _ _ e
  · obtain ⟨h1, h2⟩ := s.cell b c e
    have nb : b ≠ a := fun z => by
      subst z
      cases c with
      | lst xs => obtain ⟨vs, r, z⟩ := h2; rw [h] at z; cases z
      | ins C fs => obtain ⟨dx, vs, r, z⟩ := h2; rw [h] at z; cases z
      | deal l => obtain ⟨n, r, z⟩ := h2; rw [h] at z; cases z
      | pool => obtain ⟨ns, r1, r2, z⟩ := h2; rw [h] at z; cases z
      | tab q => obtain ⟨us, z, r⟩ := h2; rw [h] at z; cases z
      | rng lo hi => have z : H b = _ := h2; rw [h] at z; cases z
      | set S n => have z : H b = _ := h2; rw [h] at z; cases z
      | dic kvs => obtain ⟨vs, r, z⟩ := h2; rw [h] at z; cases z
      | dtp kvs => obtain ⟨vs, r, z⟩ := h2; rw [h] at z; cases z
    exact ⟨by rw [upd_ne nb]; exact h1, h2.up g rfl⟩))
/-- a suite as it is read: the exception at a, of class C, with the fields fs -/
abbrev ASu := Addr → Addr → List (Str × D) → ASt
/-- the suite's derivation -/
def SuOk (X : Cx) (body : List Stmt) (ts : ASu) : Prop := ∀ (a : Addr) (oe : Obj) (C dd : Addr) (pn : List (Addr × Obj)) (B : Hp) (fs : List (Str × D)) (vs : List (Str × V)), Zc (.ref C) (some dd) oe → (∃ vs, oe.data = .fields vs) → B dd = some (.xd vs) → FR X.K B fs vs →
  QSs (X.suite a ((a, oe) :: pn)) B W0 body (ts a C fs)
/-- the body's -/
def TbOk (X : Cx) (B0 : Hp) (body : List Stmt) (tb : ASt) : Prop := ∀ (B : Hp) (W' : WX) (pn : List (Addr × Obj)) (xe : Value → Shared → Prop), Same B0 B → Takes (X.tr pn xe) W' → PassesOwn (model X.prog X.w) X.A X.env xe → QSs (X.tr pn xe) B W' body tb
/-- what a clause wishes -/
def xTry (K : PySem.W.Frag) (c : Addr) (ts : Addr → Addr → List (Str × D) → AS → Mem → Prop) (xx : AXs) : AXs := fun σ C fs M => ∃ b, PySem.W.exmOne K (.ref C) (.ref c) = some b ∧ (b = true → ∀ a, M a = none → ts a C fs σ M) ∧ (b = false → xx σ C fs M)
/-- the ends of a suite whose exception is in slot i -/
def suE (D' : AEn) (i : Nat) : AEn := ⟨fun σ M => D'.nx (σ.set i none) M, D'.rt, fun σ M => D'.bk (σ.set i none) M, fun σ M => D'.ct (σ.set i none) M, EF⟩
def aTryAs (K : PySem.W.Frag) (c : Addr) (i : Nat) (tb : ASt) (ts : ASu) : ASt := fun D' σ M => tb { D' with xx := xTry K c (fun a C fs σ' M' => ts a C fs (suE D' i) (σ'.set i (some (.ref a))) M') D'.xx } σ M
def aTryOnly (K : PySem.W.Frag) (c : Addr) (tb : ASt) (ts : ASu) : ASt := fun D' σ M => tb { D' with xx := xTry K c (fun a C fs σ' M' => ts a C fs { D' with xx := EF } σ' M') D'.xx } σ M
theorem SS.unset {K : PySem.W.Frag} {G H : Hp} {σ : AS} {M : Mem} {s : L2.St} (ss : SS K B G σ M s H) (j : Nat) : SS K B G (σ.set j none) M (s.set j none) H := ⟨ss.base, ss.mem, by simp [ss.len], fun k d h => by
  by_cases hk : j = k
  · subst hk
    by_cases hl : j < σ.length
    · rw [List.getElem?_set_self hl] at h; cases h
    · rw [List.getElem?_eq_none (by simp; omega)] at h; cases h
  · rw [List.getElem?_set_ne hk] at h
    obtain ⟨v, h1, h2⟩ := ss.sl k d h
    exact ⟨v, by rw [List.getElem?_set_ne hk]; exact h1, h2⟩⟩
/-- over another base -/
theorem SS.onto {K : PySem.W.Frag} {B2 G H : Hp} {σ : AS} {M : Mem} {s : L2.St} (ss : SS K B2 G σ M s H) (h : Same B G) : SS K B G σ M s H := ⟨h, ss.mem, ss.len, ss.sl⟩
/-- a suite over all that it may meet -/
def suT (X : Cx) (ts : ASu) : Addr → Value → Option Addr → TS := fun a cls d Dc s H => ∃ C dd fs vs B, cls = .ref C ∧ d = some dd ∧ B dd = some (.xd vs) ∧ FR X.K B fs vs ∧ LS X.K B W0 (ts a C fs) Dc s H
theorem su_run {body : List Stmt} {ts : ASu} (hsu : SuOk X body ts) (a : Addr) (oe : Obj) (cls : Value) (d : Option Addr) (pn : List (Addr × Obj)) (hz : Zc cls d oe) (hf : ∃ vs, oe.data = .fields vs) : PSs (X.suite a ((a, oe) :: pn)) body (suT X ts a cls d) := by
  refine ⟨fun pins s σ H Dc I ⟨C, dd, fs, vs, B', e1, e2, e4, e5, h⟩ => ?_⟩
  subst e1 e2
  exact (hsu a oe C dd pn B' fs vs hz hf e4 e5).run pins s σ H Dc I h
/-- a body over any base -/
def tbT (X : Cx) (B0 : Hp) (tb : ASt) : WX → TS := fun W' Dc s H => ∃ B, Same B0 B ∧ LS X.K B W' tb Dc s H
theorem tb_run {body : List Stmt} {tb : ASt} {B0 : Hp} (hb : TbOk X B0 body tb) (W' : WX) (pn : List (Addr × Obj)) (xe : Value → Shared → Prop) (tk : Takes (X.tr pn xe) W') (hp : PassesOwn (model X.prog X.w) X.A X.env xe) : PSs (X.tr pn xe) body (tbT X B0 tb W') :=
  ⟨fun pins s σ H Dc I ⟨B', sb, h⟩ => (hb B' W' pn xe sb tk hp).run pins s σ H Dc I h⟩
theorem noW0 {K : PySem.W.Frag} {B : Hp} : ∀ c d s' H', Wx K B EF c d s' H' → W0 c d s' H' := fun c d s' H' ⟨_, _, _, _, _, _, _, _, _, _, _, _, z⟩ => z
section
variable {x n : Str} {c : Addr} {i : Nat} {body suite : List Stmt} {b0 : Stmt} {np pos pos' : Pos} {tb : ASt} {ts : ASu}
theorem qs_try_as (hs : X.stack = X.env :: X.outer) (hf : X.env.frame = some X.env.locals) (hN : X.N.Nodup) (hi : X.N[i]? = some n) (hln : X.env.kindOf n = some .local) (hc : Names X x (.ref c)) (tk : Takes X W)
    (hb : TbOk X B body tb) (hsu : SuOk X (b0 :: suite) ts) :
    QS X B W (.Try body [.ExceptHandler (some (.Name x np)) (some n) (b0 :: suite) pos'] [] [] pos) (aTryAs X.K c i tb ts) := (by exact HA.Wq.get : @HA.Wq (QS X B W (.Try body [.ExceptHandler (some (.Name x np)) (some n) (b0 :: suite) pos'] [] [] pos) (aTryAs X.K c i tb ts)) (by
  refine ps_imp (ps_try_as (tb := tbT X B tb) (ts := suT X ts) (Wout := W) hs hf hN hi hln hc tk (tb_run hb) (su_run hsu)) fun Dc s H ⟨G, σ, M, D', ss, h, kn, kr, kb, kc, kx⟩ => ?_
  refine ⟨G, ss.base, G, σ, M, _, ss.onto (Same.refl G), h, fun s' H' σ' M' G' e ss' => kn s' H' σ' M' G' e (ss'.onto (ss.base.trans e)), kr, fun s' H' σ' M' G' e ss' => kb s' H' σ' M' G' e (ss'.onto (ss.base.trans e)), fun s' H' σ' M' G' e ss' => kc s' H' σ' M' G' e (ss'.onto (ss.base.trans e)), fun cl d s' H' ⟨C, fs, dd, vs, σ', M', G', e1, e2, s5, h1, h2, b, q1, q2, q3⟩ => ?_⟩
  subst e1 e2
  refine ⟨b, q1, fun hb a ha => ?_, fun hb => kx _ _ _ _ ⟨C, fs, dd, vs, σ', M', G', rfl, rfl, s5.onto (ss.base.trans s5.base), h1, h2, q3 hb⟩⟩
  obtain ⟨g, m⟩ := s5.mem.pin h1
  have gG := s5.base.trans g
  have sB : SS X.K (upd G' dd (.xd vs)) (upd G' dd (.xd vs)) σ' M' s' H' := ⟨Same.refl _, m, s5.len, fun i d z => let ⟨v, h1, h2⟩ := s5.sl i d z; ⟨v, h1, h2.up g⟩⟩
  refine ⟨C, dd, fs, vs, upd G' dd (.xd vs), rfl, rfl, upd_same, h2.up g, _, _, M', suE D' i, (sB.set i (.ref a)), q2 hb a (s5.mem.free ha).2, ?_, ?_, ?_, ?_, noW0⟩
  · exact fun s6 H6 σ6 M6 G6 e6 ss6 q6 => kn _ H6 _ M6 G6 (gG.trans e6) ((ss6.onto (ss.base.trans (gG.trans e6))).unset i) q6
  · exact fun v H6 kv => kr v H6 (kv.lift gG)
  · exact fun s6 H6 σ6 M6 G6 e6 ss6 q6 => kb _ H6 _ M6 G6 (gG.trans e6) ((ss6.onto (ss.base.trans (gG.trans e6))).unset i) q6
  · exact fun s6 H6 σ6 M6 G6 e6 ss6 q6 => kc _ H6 _ M6 G6 (gG.trans e6) ((ss6.onto (ss.base.trans (gG.trans e6))).unset i) q6))
theorem qs_try_only (hs : X.stack = X.env :: X.outer) (hf : X.env.frame = some X.env.locals) (hc : Names X x (.ref c)) (tk : Takes X W) (hb : TbOk X B body tb) (hsu : SuOk X (b0 :: suite) ts) :
    QS X B W (.Try body [.ExceptHandler (some (.Name x np)) none (b0 :: suite) pos'] [] [] pos) (aTryOnly X.K c tb ts) := (by exact HA.Wq.get : @HA.Wq (QS X B W (.Try body [.ExceptHandler (some (.Name x np)) none (b0 :: suite) pos'] [] [] pos) (aTryOnly X.K c tb ts)) (by
  refine ps_imp (ps_try_only (tb := tbT X B tb) (ts := suT X ts) (Wout := W) hs hf hc tk (tb_run hb) (su_run hsu)) fun Dc s H ⟨G, σ, M, D', ss, h, kn, kr, kb, kc, kx⟩ => ?_
  refine ⟨G, ss.base, G, σ, M, _, ss.onto (Same.refl G), h, fun s' H' σ' M' G' e ss' => kn s' H' σ' M' G' e (ss'.onto (ss.base.trans e)), kr, fun s' H' σ' M' G' e ss' => kb s' H' σ' M' G' e (ss'.onto (ss.base.trans e)), fun s' H' σ' M' G' e ss' => kc s' H' σ' M' G' e (ss'.onto (ss.base.trans e)), fun cl d s' H' ⟨C, fs, dd, vs, σ', M', G', e1, e2, s5, h1, h2, b, q1, q2, q3⟩ => ?_⟩
  subst e1 e2
  refine ⟨b, q1, fun hb a ha => ?_, fun hb => kx _ _ _ _ ⟨C, fs, dd, vs, σ', M', G', rfl, rfl, s5.onto (ss.base.trans s5.base), h1, h2, q3 hb⟩⟩
  obtain ⟨g, m⟩ := s5.mem.pin h1
  have gG := s5.base.trans g
  have sB : SS X.K (upd G' dd (.xd vs)) (upd G' dd (.xd vs)) σ' M' s' H' := ⟨Same.refl _, m, s5.len, fun i d z => let ⟨v, h1, h2⟩ := s5.sl i d z; ⟨v, h1, h2.up g⟩⟩
  refine ⟨C, dd, fs, vs, upd G' dd (.xd vs), rfl, rfl, upd_same, h2.up g, _, _, M', _, sB, q2 hb a (s5.mem.free ha).2, ?_, ?_, ?_, ?_, noW0⟩
  · exact fun s6 H6 σ6 M6 G6 e6 ss6 q6 => kn _ H6 _ M6 G6 (gG.trans e6) (ss6.onto (ss.base.trans (gG.trans e6))) q6
  · exact fun v H6 kv => kr v H6 (kv.lift gG)
  · exact fun s6 H6 σ6 M6 G6 e6 ss6 q6 => kb _ H6 _ M6 G6 (gG.trans e6) (ss6.onto (ss.base.trans (gG.trans e6))) q6
  · exact fun s6 H6 σ6 M6 G6 e6 ss6 q6 => kc _ H6 _ M6 G6 (gG.trans e6) (ss6.onto (ss.base.trans (gG.trans e6))) q6))
end
/-! ### what a suite reads of its exception -/
/-- the exceptions of the class at C have attributes by their own dict -/
structure ErrG (K : PySem.W.Frag) (C : Addr) (f : Str) : Prop where
  ga : PySem.W.findIn K (.ref C) "__getattribute__" = some (some (.builtin "BaseException.__getattribute__"))
  gg : PySem.W.findIn K (.ref C) "__getattr__" = some none
  noN : PySem.W.findIn K (.ref C) f = some none
  exC : PySem.W.subIn K (.ref C) (.type "BaseException") = some true
  hdC : PySem.W.hasDictIn K C = true
theorem ErrTxt.g {P : Program} {K : PySem.W.Frag} {mg : Str → Option Value} (T : ErrTxt P K mg C fI f) : ErrG K C f := ⟨T.ga, T.gg, T.noN, T.exC, T.hdC⟩
/-- e.f, e the exception at a -/
def aExF (K : PySem.W.Frag) (a C : Addr) (fs : List (Str × D)) (f : Str) (te : AE) : AE := fun σ M Q E => te σ M (fun x M1 => x = .ref a ∧ ErrG K C f ∧ ∃ d, fs.lookup f = some d ∧ Q d M1) E
theorem qe_exf {a : Addr} {oe : Obj} {C dd : Addr} {pn : List (Addr × Obj)} {fs : List (Str × D)} {vs : List (Str × V)} {e : PySem.Expr} {pos : Pos} (hz : Zc (.ref C) (some dd) oe) (hf : ∃ vs, oe.data = .fields vs) (hB : B dd = some (.xd vs)) (hfr : FR X.K B fs vs) (he : QE (X.suite a ((a, oe) :: pn)) B W e te)
    (hb : attributeBase e f X.env (PySem.eval e X.env) = PySem.eval e X.env := by rfl) :
    QE (X.suite a ((a, oe) :: pn)) B W (.Attribute e f pos) (aExF X.K a C fs f te) := by
  refine ⟨fun pins s σ' H R I ⟨G, σ, M, Q, E, ss, h, kq, kx⟩ => ?_⟩
  refine attr_of hb (thn (he.run pins s σ' H (Kv X.K G _) I ⟨G, σ, M, _, E, ss, h, fun v H' kv => kv, kx⟩) fun u s1 ⟨x, H1, I1, rx, d0, M1, G1, e1, m1, r1, ex, T, d, l, q⟩ => ?_)
  subst ex
  cases r1
  obtain rfl : u = Value.ref a := rx
  obtain ⟨ha, _⟩ := I1.pin (a, oe) (List.mem_append_left _ List.mem_cons_self)
  obtain ⟨ws, hd⟩ := hf
  have sB := ss.base.trans e1
  have hx : ObjOk X.prog X.w H1 s1.heap dd (.xd vs) := I1.hok dd _ (m1.same _ _ (sB _ _ hB))
  obtain ⟨mA, hns, hr⟩ := hx
  obtain ⟨od, ho, hl⟩ := lookIn_ns hns
  obtain ⟨v, lv, rv⟩ := hfr.look l
  obtain ⟨u, hu, ru⟩ := RelO.some_of (v := v) (o := mA f) (by rw [← lv]; exact hr f)
  have J : PySem.W.InstAt s1.heap a oe C (some od) := ⟨ha, hz.1, by unfold PySem.W.notCls; rw [hd] <;> rfl, by rw [hz.2]; exact ho⟩
  exact HandSPX.exc_get I1.kIn J T.ga T.gg T.exC (PySem.W.findObj_own T.hdC T.noN rfl (by rw [hl, hu])) (handed_of ru) ⟨v, H1, I1.tok _, ru, kq v H1 ((Kv.here m1 (rv.up sB) q).lift e1)⟩
/-- isinstance(e, T), e the exception at a -/
structure ErrK (K : PySem.W.Frag) (C : Addr) : Prop where
  cl : (PySem.W.clsIn K C).isSome = true
  ga : PySem.W.findIn K (.ref C) "__getattribute__" = some (some (.builtin "BaseException.__getattribute__"))
  gg : PySem.W.findIn K (.ref C) "__getattr__" = some none
  exC : PySem.W.subIn K (.ref C) (.type "BaseException") = some true
  cc : PySem.W.findIn K (.ref C) "__class__" = some (some (.builtin "object.__class__"))
  gs : PySem.W.specialIn K (.builtin "object.__class__") "__get__" = some (some (.builtin "getset_descriptor.__get__"))
  tk : PySem.W.takesIn K (.builtin "object.__class__") = some true
  ob : PySem.W.mroIn K C (.type "object") = some true
def aIsE (K : PySem.W.Frag) (a C : Addr) (tas : AA) : AE := fun σ M Q E => tas σ M (fun xs M1 => ErrK K C ∧ ∃ c b, xs = [.ref a, .ref c] ∧ PySem.W.kitOne K (.ref C) (.ref c) = some b ∧ Q (.bl b) M1) E
theorem qe_ise {a : Addr} {oe : Obj} {C dd : Addr} {pn : List (Addr × Obj)} {vs : List (Str × V)} {e : PySem.Expr} {es : List PySem.Expr} {p pos : Pos} (hz : Zc (.ref C) (some dd) oe) (hf : ∃ vs, oe.data = .fields vs) (hB : B dd = some (.xd vs))
    (hg : Gl (X.suite a ((a, oe) :: pn)) "isinstance") (hm : X.mg "isinstance" = none) (ha : QA (X.suite a ((a, oe) :: pn)) B W (e :: es) tas)
    (he : starEach (e :: es) X.env = (false, PySem.eval e X.env) :: starEach es X.env := by rfl) (hpl : (backTo pos (starEach es X.env)).any (·.1) = false := by rfl) :
    QE (X.suite a ((a, oe) :: pn)) B W (.Call (.Name "isinstance" p) (e :: es) [] pos) (aIsE X.K a C tas) := by
  have call : CallR (X.suite a ((a, oe) :: pn)) (.builtin "isinstance") (fun xs H Q => ErrK X.K C ∧ ∃ c b, xs = [.ref a, .ref c] ∧ PySem.W.kitOne X.K (.ref C) (.ref c) = some b ∧ H dd = some (.xd vs) ∧ Q (.bl b) H) := by
    intro pins s σ H xs us Q I r ⟨T, c, b, ex, e, hd, q⟩
    subst ex
    obtain ⟨u1, u2, rfl, r1, r2⟩ := vals2 r
    obtain rfl : u1 = Value.ref a := r1
    obtain rfl : u2 = Value.ref c := r2
    obtain ⟨hA, _⟩ := I.pin (a, oe) (List.mem_append_left _ List.mem_cons_self)
    obtain ⟨ws, hdt⟩ := hf
    have hx : ObjOk X.prog X.w H s.heap dd (.xd vs) := I.hok dd _ hd
    obtain ⟨mA, hns, hr⟩ := hx
    obtain ⟨od, ho, hl⟩ := lookIn_ns hns
    have J : PySem.W.InstAt s.heap a oe C (some od) := ⟨hA, hz.1, by unfold PySem.W.notCls; rw [hdt] <;> rfl, by rw [hz.2]; exact ho⟩
    exact PySem.W.kia_one (PySem.W.kitx_exc T.cl T.ga T.gg T.exC T.cc T.gs T.tk T.ob) I.kIn J e (fun z => nomatch z) fun tk => ⟨.bl b, H, I.tok tk, rfl, q⟩
  refine pe_imp (pe_callB call hg hm (by decide +kernel) ha (by decide) (by decide) he hpl) fun s H R ⟨G, σ, M, Q, E, ss, h, k, kx⟩ => ⟨G, σ, M, _, E, ss, h, fun ws H1 ds M1 G1 e1 m1 r1 ⟨T, c, b, ex, e, q⟩ => ?_, kx⟩
  subst ex
  obtain ⟨v, w', rfl, ra, rb⟩ := rpa2 r1
  cases ra; cases rb
  exact ⟨T, c, b, rfl, e, m1.same _ _ ((ss.base.trans e1) _ _ hB), k _ _ ((Kv.here m1 (.bl b) q).lift e1)⟩
end
end HA
/-! A25: where the classes stand; facts of error classes. -/
namespace HA
open PySem PySem.Spec L2
/-- the written part, and where the classes stand -/
structure Wd where
  K : PySem.W.Frag
  C : Nat → Addr
  T : Nat → Addr × Str
def mkC : List (Nat × Addr) → Nat → Addr
  | [], _ => 0
  | (n, a) :: r, i => if i = n then a else mkC r i
def mkT : List (Addr × Str) → Nat → Addr × Str
  | [], _ => (0, "")
  | [p], _ => p
  | p :: r, i => if i = 0 then p else mkT r (i - 1)
/-- the tables of code objects are there -/
def TabM (z : Wd) (M : Mem) : Prop := ∀ i, M (z.T i).1 = some (.tab (z.T i).2)
theorem TabM.up {z : Wd} {M M' : Mem} (h : TabM z M) (k : MLe M M') : TabM z M' := fun i => k _ _ (h i)
theorem mkT_mem {p : Addr × Str} : ∀ {l : List (Addr × Str)} {i : Nat}, mkT (p :: l) i ∈ p :: l
  | [], _ => .head _
  | q :: r, 0 => .head _
  | q :: r, i + 1 => .tail _ (mkT_mem (p := q) (l := r) (i := i))
/-- the class numbered c; its instances' attributes -/
structure ClsOk (z : Wd) (c : Nat) (as : List Str) : Prop where
  cls : Cls z.K (z.C c)
  na : ∀ a ∈ as, NoAttr z.K (z.C c) a
/-- what a handler names, what isinstance says -/
structure Exm (z : Wd) (c d : Nat) (b : Bool) : Prop where
  exm : PySem.W.exmOne z.K (.ref (z.C c)) (.ref (z.C d)) = some b
  kit : PySem.W.kitOne z.K (.ref (z.C c)) (.ref (z.C d)) = some b
theorem exm_b {K : PySem.W.Frag} {C D : Addr} {b : Bool} (h1 : PySem.W.subIn K (.ref D) (.type "BaseException") = some true) (h2 : PySem.W.isClsIn K D = true) (h3 : PySem.W.typeIn K (.ref D) = some (.type "type")) (h4 : PySem.W.subIn K (.ref C) (.ref D) = some b) (h5 : PySem.W.subIn K (.ref D) (.ref D) = some true) :
    PySem.W.exmOne K (.ref C) (.ref D) = some b ∧ PySem.W.kitOne K (.ref C) (.ref D) = some b := (by exact HA.Wq.get : @HA.Wq (PySem.W.exmOne K (.ref C) (.ref D) = some b ∧ PySem.W.kitOne K (.ref C) (.ref D) = some b) (by
  have e1 : (PySem.W.subIn K (.ref D) (.type "BaseException") == some true) = true := by rw [h1] <;> rfl
  have e2 : ((PySem.W.clsIn K D).isSome && PySem.W.typeIn K (.ref D) == some (.type "type")) = true := by
    have h2' : (PySem.W.clsIn K D).isSome = true := h2
    rw [h2', h3] <;> rfl
  have e3 : PySem.W.kitCls K (.ref C) (.ref D) = some b := by
    show (if ((PySem.W.clsIn K D).isSome && PySem.W.typeIn K (.ref D) == some (.type "type")) = true then PySem.W.subIn K (.ref C) (.ref D) else none) = some b
    rw [if_pos e2]; exact h4
  refine ⟨?_, ?_⟩
  · show (if (PySem.W.subIn K (.ref D) (.type "BaseException") == some true) = true then PySem.W.kitCls K (.ref C) (.ref D) else none) = some b
    rw [if_pos e1]; exact e3
  · show (if (Value.ref C == Value.ref D) = true then some true else PySem.W.kitCls K (.ref C) (.ref D)) = some b
    by_cases h : (Value.ref C == Value.ref D) = true
    · rw [if_pos h]
      have e : C = D := Value.ref.inj (beq_iff_eq.mp h)
      subst e
      exact h5.symm.trans h4
    · rw [if_neg h]; exact e3))
/-- what is read of an error of the class c -/
structure ErrR (z : Wd) (c : Nat) (f : Str) : Prop where
  g : ErrG z.K (z.C c) f
  k : ErrK z.K (z.C c)
section
variable {nx : AS → Mem → Prop} {rt : DK} {bk ct : AS → Mem → Prop} {xx : AXs} {σ : AS} {M : Mem} {te : AE} {C : Addr} {f : Str}
theorem i_raise (h : te σ M (fun d M1 => xx σ C [(f, d)] M1) xx) : aRaise C f te ⟨nx, rt, bk, ct, xx⟩ σ M := h
theorem i_xx {M' : Mem} {P : Mem → Prop} (m : MLe M M') (h : P M) : ∃ M2, MLe M2 M' ∧ P M2 := ⟨M, m, h⟩
theorem i_fznx {M' : Mem} {P : Prop} (m : MLe M M') (h : P) : MLe M M' ∧ P := ⟨m, h⟩
end
end HA
/-! A26: loops and comprehensions by what was consumed, over known lists. -/
namespace HA
open PySem PySem.Spec L2
section
variable {nx : AS → Mem → Prop} {rt : DK} {bk ct : AS → Mem → Prop} {xx : AXs} {σ0 : AS} {M0 : Mem} {st : Mem → Prop} {g : AG} {tb : ASt}
/-- what a loop asks -/
def ForQ (xs : List D) (st : Mem → Prop) (g : AG) (tb : ASt) (nx : AS → Mem → Prop) (rt : DK) (xx : AXs) (σ0 : AS) (M0 : Mem) : Prop := ∃ V : Nat → AS → Mem → Prop, V 0 σ0 M0 ∧
  (∀ i x σ M, xs[i]? = some x → V i σ M → st M ∧ g x σ M (fun σ2 M2 => tb ⟨V (i + 1), rt, nx, V (i + 1), xx⟩ σ2 M2) xx) ∧ ∀ σ M, V xs.length σ M → st M ∧ nx σ M
theorem i_forQ {ti : AI} {σ : AS} {M : Mem} (h : ti σ M (fun xs st M1 => ForQ xs st g tb nx rt xx σ M1) xx) : aFor ti g tb ⟨nx, rt, bk, ct, xx⟩ σ M := h
theorem for_inv {xs : List D} (S : List D → AS → Mem → Prop) (h0 : S [] σ0 M0)
    (turn : ∀ pre x rest, xs = pre ++ x :: rest → ∀ σ M, S pre σ M → st M ∧ g x σ M (fun σ2 M2 => tb ⟨S (pre ++ [x]), rt, nx, S (pre ++ [x]), xx⟩ σ2 M2) xx) (fin : ∀ σ M, S xs σ M → st M ∧ nx σ M) : ForQ xs st g tb nx rt xx σ0 M0 :=
  for_fold (D' := { nx := nx, rt := rt, xx := xx }) S h0 turn fin
theorem for_list {α : Type} {l : List α} {enc : α → D} {xs : List D} (S : List α → AS → Mem → Prop) (hx : xs = l.map enc) (h0 : S [] σ0 M0)
    (turn : ∀ pre a rest, l = pre ++ a :: rest → ∀ σ M, S pre σ M → st M ∧ g (enc a) σ M (fun σ2 M2 => tb ⟨S (pre ++ [a]), rt, nx, S (pre ++ [a]), xx⟩ σ2 M2) xx) (fin : ∀ σ M, S l σ M → st M ∧ nx σ M) : ForQ xs st g tb nx rt xx σ0 M0 := (by exact HA.Wq.get : @HA.Wq (ForQ xs st g tb nx rt xx σ0 M0) (by
  subst hx
  refine ⟨fun i => S (l.take i), by simpa using h0, fun i x σ M hx v => ?_, fun σ M v => fin σ M (by rw [List.length_map, List.take_length] at v; exact v)⟩
  rw [List.getElem?_map] at hx
  cases ha : l[i]? with
  | none => rw [ha] at hx; cases hx
  | some a =>
    rw [ha] at hx
    cases hx
    obtain ⟨e1, e2⟩ := split_at ha
    have := turn (l.take i) a (l.drop (i + 1)) e1 σ M v
    simp only [e2]
    exact this))
theorem for_range {lo : Int} {m n : Nat} (S : Nat → AS → Mem → Prop) (hm : m = n) (h0 : S 0 σ0 M0)
    (turn : ∀ i, i < n → ∀ σ M, S i σ M → st M ∧ g (.int (lo + i)) σ M (fun σ2 M2 => tb ⟨S (i + 1), rt, nx, S (i + 1), xx⟩ σ2 M2) xx) (fin : ∀ σ M, S n σ M → st M ∧ nx σ M) : ForQ (rangeD lo m) st g tb nx rt xx σ0 M0 := (by exact HA.Wq.get : @HA.Wq (ForQ (rangeD lo m) st g tb nx rt xx σ0 M0) (by
  subst hm
  refine ⟨S, h0, fun i x σ M hx v => ?_, fun σ M v => fin σ M (by rw [rangeD_len] at v; exact v)⟩
  obtain ⟨hi, rfl⟩ := rangeD_some hx
  exact turn i hi σ M v))
theorem for_step {lo c : Int} {n : Nat} (S : Nat → AS → Mem → Prop) (h0 : S 0 σ0 M0)
    (turn : ∀ i, i < n → ∀ σ M, S i σ M → st M ∧ g (.int (lo + i * c)) σ M (fun σ2 M2 => tb ⟨S (i + 1), rt, nx, S (i + 1), xx⟩ σ2 M2) xx) (fin : ∀ σ M, S n σ M → st M ∧ nx σ M) : ForQ (stepD lo c n) st g tb nx rt xx σ0 M0 := by
  refine ⟨S, h0, fun i x σ M hx v => ?_, fun σ M v => fin σ M (by rw [stepD_len] at v; exact v)⟩
  obtain ⟨hi, rfl⟩ := stepD_some hx
  exact turn i hi σ M v
/-! while -/
theorem i_while {tt : AT} {σ : AS} {M : Mem} (h : ∃ V : Nat → AS → Mem → Prop, (∃ m, V m σ M) ∧ ∀ m σ M, V m σ M →
  tt σ M (fun b M1 => (b = true → tb ⟨fun σ' M' => ∃ m', m' < m ∧ V m' σ' M', rt, nx, fun σ' M' => ∃ m', m' < m ∧ V m' σ' M', xx⟩ σ M1) ∧ (b = false → nx σ M1)) xx) : aWhile tt tb ⟨nx, rt, bk, ct, xx⟩ σ M := h
end
section
variable {σ : AS} {M1 : Mem} {st : Mem → Prop} {g : AG} {tt : AT} {te : AE} {vs : List Nat} {Q : List D → Prop}
/-- what a frozen comprehension asks -/
def LcQ (xs : List D) (st : Mem → Prop) (g : AG) (tt : AT) (te : AE) (vs : List Nat) (σ : AS) (M1 : Mem) (Q : List D → Prop) : Prop := (∀ M', MLe M1 M' → st M') ∧ xs.length ≤ sizeLine ∧ ∃ R : Nat → List D → Prop, R 0 [] ∧
      (∀ i x acc M', xs[i]? = some x → acc.length ≤ i → R i acc → MLe M1 M' → g x (wipeA σ vs) M' (fun σ2 M2 => tt σ2 M2 (fun b M3 => (b = true → te σ2 M3 (fun y M4 => M4 = M' ∧ R (i + 1) (acc ++ [y])) EF) ∧ (b = false → M3 = M' ∧ R (i + 1) acc)) EF) EF) ∧ ∀ acc, R xs.length acc → Q acc
theorem i_lcQ {ti : AI} {M : Mem} {Q : DK} {E : AXs} (h : ti σ M (fun xs st M1 => LcQ xs st g tt te vs σ M1 fun acc => Q (.lst acc) M1) E) : aLcF ti g tt te vs σ M Q E := h
theorem lc_rel {α : Type} {l : List α} {enc : α → D} {xs : List D} (S : α → D → Prop) (hx : xs = l.map enc) (hst : ∀ M', MLe M1 M' → st M') (hl : l.length ≤ sizeLine)
    (body : ∀ a ∈ l, ∀ M' (P : DK) (N : Mem → Prop), MLe M1 M' → (∀ y, S a y → P y M') → g (enc a) (wipeA σ vs) M' (fun σ2 M2 => tt σ2 M2 (fun b M3 => (b = true → te σ2 M3 P EF) ∧ (b = false → N M3)) EF) EF)
    (fin : ∀ ys : List D, ys.length = l.length → (∀ (i : Nat) (a : α) (y : D), l[i]? = some a → ys[i]? = some y → S a y) → Q ys) : LcQ xs st g tt te vs σ M1 Q := lcF_rel S hx hst hl body fin
theorem lc_map {α : Type} {l : List α} {enc f : α → D} {xs : List D} (hx : xs = l.map enc) (hst : ∀ M', MLe M1 M' → st M') (hl : l.length ≤ sizeLine)
    (body : ∀ a ∈ l, ∀ M' (P : DK) (N : Mem → Prop), MLe M1 M' → P (f a) M' → g (enc a) (wipeA σ vs) M' (fun σ2 M2 => tt σ2 M2 (fun b M3 => (b = true → te σ2 M3 P EF) ∧ (b = false → N M3)) EF) EF)
    (fin : Q (l.map f)) : LcQ xs st g tt te vs σ M1 Q := lcF_map hx hst hl body fin
theorem lc_filter {α : Type} {l : List α} {enc f : α → D} {p : α → Bool} {xs : List D} (hx : xs = l.map enc) (hst : ∀ M', MLe M1 M' → st M') (hl : l.length ≤ sizeLine)
    (body : ∀ a ∈ l, ∀ M' (P : DK) (N : Mem → Prop), MLe M1 M' → (p a = true → P (f a) M') → (p a = false → N M') → g (enc a) (wipeA σ vs) M' (fun σ2 M2 => tt σ2 M2 (fun b M3 => (b = true → te σ2 M3 P EF) ∧ (b = false → N M3)) EF) EF)
    (fin : Q ((l.filter p).map f)) : LcQ xs st g tt te vs σ M1 Q := lcF_filter hx hst hl body fin
/-- each number of a range gives one thing -/
theorem lc_range {lo : Int} {m n : Nat} {f : Nat → D} (hm : m = n) (hst : ∀ M', MLe M1 M' → st M') (hl : n ≤ sizeLine)
    (body : ∀ i, i < n → ∀ M' (P : DK) (N : Mem → Prop), MLe M1 M' → P (f i) M' → g (.int (lo + i)) (wipeA σ vs) M' (fun σ2 M2 => tt σ2 M2 (fun b M3 => (b = true → te σ2 M3 P EF) ∧ (b = false → N M3)) EF) EF)
    (fin : Q ((List.range n).map f)) : LcQ (rangeD lo m) st g tt te vs σ M1 Q := by
  subst hm
  exact lc_map (l := List.range m) (enc := fun j => .int (lo + (j : Nat))) rfl hst (by simpa using hl) (fun i hi => body i (List.mem_range.mp hi)) fin
theorem lc_rrel {lo : Int} {m n : Nat} (S : Nat → D → Prop) (hm : m = n) (hst : ∀ M', MLe M1 M' → st M') (hl : n ≤ sizeLine)
    (body : ∀ i, i < n → ∀ M' (P : DK) (N : Mem → Prop), MLe M1 M' → (∀ y, S i y → P y M') → g (.int (lo + i)) (wipeA σ vs) M' (fun σ2 M2 => tt σ2 M2 (fun b M3 => (b = true → te σ2 M3 P EF) ∧ (b = false → N M3)) EF) EF)
    (fin : ∀ ys : List D, ys.length = n → (∀ (i : Nat) (y : D), ys[i]? = some y → S i y) → Q ys) : LcQ (rangeD lo m) st g tt te vs σ M1 Q := (by exact HA.Wq.get : @HA.Wq (LcQ (rangeD lo m) st g tt te vs σ M1 Q) (by
  subst hm
  refine lc_rel (l := List.range m) (enc := fun j => .int (lo + (j : Nat))) S rfl hst (by simpa using hl) (fun i hi => body i (List.mem_range.mp hi)) fun ys h1 h2 => fin ys (by simpa using h1) fun i y hy => ?_
  have hi : i < m := by
    have := (List.getElem?_eq_some_iff.mp hy).1
    simp at h1; omega
  exact h2 i i y (by simp [hi]) hy))
theorem lc_step {lo c : Int} {n : Nat} {f : Nat → D} (hst : ∀ M', MLe M1 M' → st M') (hl : n ≤ sizeLine)
    (body : ∀ i, i < n → ∀ M' (P : DK) (N : Mem → Prop), MLe M1 M' → P (f i) M' → g (.int (lo + i * c)) (wipeA σ vs) M' (fun σ2 M2 => tt σ2 M2 (fun b M3 => (b = true → te σ2 M3 P EF) ∧ (b = false → N M3)) EF) EF)
    (fin : Q ((List.range n).map f)) : LcQ (stepD lo c n) st g tt te vs σ M1 Q :=
  lc_map (l := List.range n) (enc := fun j => .int (lo + (j : Nat) * c)) rfl hst (by simpa using hl) (fun i hi => body i (List.mem_range.mp hi)) fin
end
/-- things that are all ints -/
theorem all_ints {ys : List D} (h : ∀ (i : Nat) (y : D), ys[i]? = some y → ∃ m : Int, y = .int m) : ∃ ns : List Int, ys = ns.map .int := (by exact HA.Wq.get : @HA.Wq (∃ ns : List Int, ys = ns.map .int) (by
  induction ys with
  | nil => exact ⟨[], rfl⟩
  | cons y r ih =>
    obtain ⟨m, rfl⟩ := h 0 y rfl
    obtain ⟨ns, rfl⟩ := ih fun i z hz => h (i + 1) z (by simpa using hz)
    exact ⟨m :: ns, rfl⟩))
/-- .. and octets -/
theorem all_oct {ys : List D} (h : ∀ (i : Nat) (y : D), ys[i]? = some y → ∃ m : Int, y = .int m ∧ 0 ≤ m ∧ m < 256) : ∃ ns : List Int, ys = ns.map .int ∧ Oct ns := (by exact HA.Wq.get : @HA.Wq (∃ ns : List Int, ys = ns.map .int ∧ Oct ns) (by
  induction ys with
  | nil => exact ⟨[], rfl, fun _ h => nomatch h⟩
  | cons y r ih =>
    obtain ⟨m, rfl, h0, h1⟩ := h 0 y rfl
    obtain ⟨ns, rfl, ho⟩ := ih fun i z hz => h (i + 1) z (by simpa using hz)
    exact ⟨m :: ns, rfl, fun x hx => by
      rcases List.mem_cons.mp hx with rfl | hx
      · exact ⟨h0, h1⟩
      · exact ho x hx⟩))
theorem toNat_cast {k : Nat} : ((k : Int)).toNat = k := Int.toNat_natCast k
end HA
/-! A27: steps for objects, methods; extend by a tuple; zip. -/
namespace HA
open PySem PySem.Spec PyProof.Rows L2
open PySem.AutoSeq1 (wpAny_loadPart')
theorem pick_nil {α : Type} {zs : List α} : pick [] zs = [] := rfl
theorem pick_cons {α : Type} {i : Nat} {pm : List Nat} {zs : List α} : pick (i :: pm) zs = (zs[i]?).toList ++ pick pm zs := by
  unfold pick
  rw [List.filterMap_cons]
  cases zs[i]? <;> rfl
section
variable {nx : AS → Mem → Prop} {rt : DK} {bk ct : AS → Mem → Prop} {xx : AXs} {σ : AS} {M : Mem} {Q : DK} {E : AXs} {to ta tv : AE} {tas tk : AA} {C a : Addr} {m f : Str} {sp : ASp} {n j : Nat} {pm : List Nat} {fs : List (Str × D)} {d : D} {r : A2}
theorem i_make (h : tas σ M (fun us M1 => tk σ M1 (fun ws M2 => us.length = n ∧ ws.length = j ∧ ∀ a, M2 a = none → sp (pick pm (.ref a :: us ++ ws)) (mset M2 a (.ins C [])) (fun v M3 => v = .non ∧ Q (.ref a) M3) (E σ)) E) E) : aMake C sp n j pm tas tk σ M Q E := h
theorem i_mk {us ws : List D} {n j : Nat} {R : Addr → Prop} (h1 : us.length = n) (h2 : ws.length = j) (h : ∀ a, M a = none → R a) : us.length = n ∧ ws.length = j ∧ ∀ a, M a = none → R a := ⟨h1, h2, h⟩
theorem i_non {R : Prop} (h : R) : D.non = D.non ∧ R := ⟨rfl, h⟩
theorem i_pk {ds ds' : List D} {X : AX} (e : pick pm ds = ds') (h : sp ds' M Q X) : sp (pick pm ds) M Q X := by rw [e]; exact h
def methK (C : Addr) (m : Str) (sp : ASp) (n : Nat) (pm : List Nat) (ta : AA) (σ : AS) (Q : DK) (E : AXs) : DK := fun x M1 => match x with
  | .ref a => ∃ fs, M1 a = some (.ins C fs) ∧ fs.lookup m = none ∧ ta σ M1 (fun us M2 => us.length = n ∧ sp (pick pm (.ref a :: us)) M2 Q (E σ)) E
  | _ => False
theorem i_meth (h : to σ M (methK C m sp n pm tas σ Q E) E) : aMeth C m sp n pm to tas σ M Q E := h
theorem i_mtK (hm : M a = some (.ins C fs)) (l : fs.lookup m = none) (h : tas σ M (fun us M2 => us.length = n ∧ sp (pick pm (.ref a :: us)) M2 Q (E σ)) E) : methK C m sp n pm tas σ Q E (.ref a) M := ⟨fs, hm, l, h⟩
theorem i_ml {us ds : List D} {X : AX} (h1 : us.length = n) (e : pick pm (.ref a :: us) = ds) (h : sp ds M Q X) : us.length = n ∧ sp (pick pm (.ref a :: us)) M Q X := ⟨h1, by rw [e]; exact h⟩
def methKK (C : Addr) (m : Str) (sp : ASp) (j : Nat) (pm : List Nat) (tk : AA) (σ : AS) (Q : DK) (E : AXs) : DK := fun x M1 => match x with
  | .ref a => ∃ fs, M1 a = some (.ins C fs) ∧ fs.lookup m = none ∧ tk σ M1 (fun ws M2 => ws.length = j ∧ sp (pick pm ([.ref a] ++ ws)) M2 Q (E σ)) E
  | _ => False
theorem i_methK (h : to σ M (methKK C m sp j pm tk σ Q E) E) : aMethK C m sp j pm to tk σ M Q E := h
theorem i_mtKK (hm : M a = some (.ins C fs)) (l : fs.lookup m = none) (h : tk σ M (fun ws M2 => ws.length = j ∧ sp (pick pm ([.ref a] ++ ws)) M2 Q (E σ)) E) : methKK C m sp j pm tk σ Q E (.ref a) M := ⟨fs, hm, l, h⟩
theorem i_mlK {ws ds : List D} {X : AX} (h1 : ws.length = j) (e : pick pm ([.ref a] ++ ws) = ds) (h : sp ds M Q X) : ws.length = j ∧ sp (pick pm ([.ref a] ++ ws)) M Q X := ⟨h1, by rw [e]; exact h⟩
def augE (C a : Addr) (f : Str) (σ : AS) (nx : AS → Mem → Prop) : DK := fun z M4 => ∃ fs', M4 a = some (.ins C fs') ∧ fs'.length < 1000 ∧ nx σ (mset M4 a (.ins C (putD f z fs')))
def augK (K : PySem.W.Frag) (tv : AE) (r : A2) (f : Str) (σ : AS) (nx : AS → Mem → Prop) (xx : AXs) : DK := fun x M1 => match x with
  | .ref a => ∃ C fs old, M1 a = some (.ins C fs) ∧ Cls K C ∧ NoAttr K C f ∧ fs.lookup f = some old ∧ tv σ M1 (fun y M3 => r old y M3 (augE C a f σ nx)) xx
  | _ => False
theorem i_fldAug {K : PySem.W.Frag} (h : to σ M (augK K tv r f σ nx xx) xx) : aFldAug K to tv r f ⟨nx, rt, bk, ct, xx⟩ σ M := h
theorem i_augK {K : PySem.W.Frag} (hm : M a = some (.ins C fs)) (cl : Cls K C) (na : NoAttr K C f) (l : fs.lookup f = some d) (h : tv σ M (fun y M3 => r d y M3 (augE C a f σ nx)) xx) : augK K tv r f σ nx xx (.ref a) M := ⟨C, fs, d, hm, cl, na, l, h⟩
theorem i_augE {fs' : List (Str × D)} {d : D} (hm : M a = some (.ins C fs)) (hz : fs.length < 1000) (e : putD f d fs = fs') (h : nx σ (mset M a (.ins C fs'))) : augE C a f σ nx d M := ⟨fs, hm, hz, by subst e; exact h⟩
end
theorem ne_sn {M : Mem} {a b : Addr} {c : Cell} (h : M a = some c) (h' : M b = none) : a ≠ b := fun e => by rw [e, h'] at h; cases h
theorem mset_old {M : Mem} {a b : Addr} {c d : Cell} (h' : M b = none) (h : M a = some d) : mset M b c a = some d := by rw [mset_ne (ne_sn h h'), h]
theorem mset_non {M : Mem} {a b : Addr} {c : Cell} (h : mset M b c a = none) : a ≠ b ∧ M a = none := by
  by_cases e : a = b
  · subst e; rw [mset_same] at h; cases h
  · rw [mset_ne e] at h; exact ⟨e, h⟩
theorem Deal.ins {M : Mem} {x : D} {b C : Addr} {fs : List (Str × D)} {c : Cell} (h : Deal M x) (hb : M b = some (.ins C fs)) : Deal (mset M b c) x := by
  match x, h with
  | .ref a, ⟨l, h0, h1, h2⟩ => exact ⟨l, h0, by rw [mset_ne (fun e => by subst e; rw [h1] at hb; cases hb)]; exact h1, by rw [mset_ne (fun e => by subst e; rw [h2] at hb; cases hb)]; exact h2⟩
theorem Deal.lst {M : Mem} {x : D} {b : Addr} {xs : List D} {c : Cell} (h : Deal M x) (hb : M b = some (.lst xs)) : Deal (mset M b c) x := by
  match x, h with
  | .ref a, ⟨l, h0, h1, h2⟩ => exact ⟨l, h0, by rw [mset_ne (fun e => by subst e; rw [h1] at hb; cases hb)]; exact h1, by rw [mset_ne (fun e => by subst e; rw [h2] at hb; cases hb)]; exact h2⟩
theorem Deal.new {M : Mem} {x : D} {b : Addr} {c : Cell} (h : Deal M x) (hb : M b = none) : Deal (mset M b c) x := h.up (MLe.new hb)
theorem MLe.newM {M N : Mem} {a : Addr} {c : Cell} (h : M a = none) (k : MLe M N) : MLe M (mset N a c) := fun b d e => by
  rw [mset_ne (fun z => by subst z; rw [h] at e; cases e)]; exact k _ _ e
theorem c_oflI {x : D} {ns : List Int} {M : Mem} {Q : DK} {X : AX} (hd : Deal M x) (h0 : ns ≠ []) (hl : ns.length < 1000000) (h : ∀ k ∈ ns, Q (.int k) M) : spOf [x, lI ns] M Q X := c_ofl hd (by simpa using h0) (by simpa using hl) fun d hd => by
  obtain ⟨k, hk, rfl⟩ := List.mem_map.mp hd
  exact h k hk
theorem c_oftI {x : D} {ns : List Int} {M : Mem} {Q : DK} {X : AX} (hd : Deal M x) (h0 : ns ≠ []) (hl : ns.length < 1000000) (h : ∀ k ∈ ns, Q (.int k) M) : spOf [x, tI ns] M Q X := c_oft hd (by simpa using h0) (by simpa using hl) fun d hd => by
  obtain ⟨k, hk, rfl⟩ := List.mem_map.mp hd
  exact h k hk
theorem i_tt {R : Prop} (h : R) : True ∧ R := ⟨trivial, h⟩
theorem br_true {A B : Prop} (h : A) : (true = true → A) ∧ (true = false → B) := ⟨fun _ => h, nofun⟩
theorem br_false {A B : Prop} (h : B) : (false = true → A) ∧ (false = false → B) := ⟨nofun, fun _ => h⟩
theorem ixN_nat {n i : Nat} (h : i < n) : ixN n (i : Int) = some i := by
  unfold ixN
  rw [if_pos (by omega), if_pos (by omega)]
  simp
theorem i_lsc {xs : List D} {M : Mem} {Q : DK} (h : ∀ p, M p = none → Q (.ref p) (mset M p (.lst xs))) : cList [.tup xs] M Q := h
theorem i_lscI {xs : List Int} {M : Mem} {Q : DK} (h : ∀ p, M p = none → Q (.ref p) (mset M p (.lst (xs.map .int)))) : cList [tI xs] M Q := h
theorem i_lscl {xs : List D} {M : Mem} {Q : DK} (h : ∀ p, M p = none → Q (.ref p) (mset M p (.lst xs))) : cList [.lst xs] M Q := ⟨xs, rfl, h⟩
theorem i_lsclI {xs : List Int} {M : Mem} {Q : DK} (h : ∀ p, M p = none → Q (.ref p) (mset M p (.lst (xs.map .int)))) : cList [lI xs] M Q := ⟨xs.map .int, rfl, h⟩
/-! ### xs.extend(tuple) -/
def rExtendT (K : PySem.W.Frag) : V → List V → Hp → VK → Prop := fun x vs H Q => ∃ l b xs zs, x = .ref l ∧ vs = [.ref b] ∧ H l = some (.lst xs) ∧ SqT K H b zs ∧ xs.length + zs.length ≤ sizeLine ∧ Q .non (upd H l (.lst (xs ++ zs)))
theorem list_extend_tup (l : Addr) (items : Array Value) (n : Nat) (b : Addr) (items2 : Array Value) (n2 : Nat) (dd : Option Addr) (sl : Array (Option Value)) (hs0 : ¬(!items.isEmpty && Builtin.List.listTooLong (items.size + items2.size)) = true) (hs1 : items.size ≤ sizeLine) (hs2 : items.size + items2.size ≤ sizeLine + 1) :
    Meets (Builtin.«list.extend» ⟨[.ref l, .ref b], []⟩) (fun _ R s => s.heap.get? l = some { cls := .type "list", dict := none, data := .seq items n, slots := #[] } ∧ s.heap.get? b = some { cls := .type "tuple", dict := dd, data := .seq items2 n2, slots := sl } ∧ R (.ok (.ret Value.none)) { s with heap := s.heap.update l (Obj.mapSeq fun x => x ++ items2), toks := s.toks }) :=
  .of_wp fun prog w A R s h => by
    obtain ⟨heap, gs, dr, tk, os⟩ := s
    obtain ⟨at1, at2, h⟩ := h
    have g1 := AutoSeq1.idx_int; have g2 := AutoSeq1.sub_tuple_tuple; have g3 := AutoSeq1.sub_list_list; have g4 := AutoSeq1.sub_tuple_list; have g5 := AutoSeq1.sub_list_tuple
    have both : (items ++ items2).size ≤ sizeLine + 1 := by rw [Array.size_append]; exact hs2
    wp_walk using (wpAny_updateSeq at1 rfl (hz := hs1) (_hz' := both)), wpAny_loadPart' at1, wpAny_loadPart' at2
    exact ⟨_, rfl, h⟩
theorem mt_extendT {X : Cx} : MtR X "list.extend" (rExtendT X.K) := (by exact HA.Wq.get : @HA.Wq (MtR X "list.extend" (rExtendT X.K)) (by
  intro pins s σ H x vs v us Q I rx rv h
  obtain ⟨l, b, xs, zs, rfl, rfl, hH, hB, hz, q⟩ := h
  cases rx
  obtain ⟨u, rfl, ru⟩ := rv.one
  cases ru
  obtain ⟨z, its, n, r, hl, e⟩ := I.lstM hH
  obtain ⟨its2, r2, ⟨o2, e2, c2, n2, d2⟩, hl2⟩ := I.tuple hB
  have hl2' := r2.length
  obtain ⟨oc, od, dt, sl⟩ := o2
  dsimp only at c2 d2
  subst c2 d2
  have hsz : its.toArray.size + its2.toArray.size ≤ sizeLine := by rw [List.size_toArray, List.size_toArray]; omega
  have hlong : ¬ (!its.toArray.isEmpty && Builtin.List.listTooLong (its.toArray.size + its2.toArray.size)) = true := by
    rw [notLongL hsz, Bool.and_false]
    exact Bool.false_ne_true
  refine call_meets PySem.F.slot_list_extend ⟨_, e, rfl⟩ PySem.F.entry_list_extend (PySem.F.args_list_extend_2 _ _)
    (list_extend_tup l its.toArray n b its2.toArray n2 od sl hlong (by rw [List.size_toArray]; omega) (by omega)) ⟨e, e2, ?_⟩
  refine ⟨.non, _, I.lset (its' := its ++ its2) hH e (by simp) (r.append r2) ?_, rfl, q⟩
  rw [List.length_append]
  omega))
end HA
/-! A28: steps for repr and == of whole trees of things. -/
namespace HA
open PySem PySem.Spec PyProof.Rows L2
/-- d is the data p, shown in at most n, at most k deep -/
structure Pw (M : Mem) (d : D) (p : PyData) (n k : Nat) : Prop where
  dr : DR M d p
  sh : Sh p n k
  ly : p.canLay0 = true
structure PwL (M : Mem) (ds : List D) (ps : List PyData) (n k : Nat) : Prop where
  dr : DRA M ds ps
  sh : PyData.showableAll ps = true
  ln : ((PyData.shownAll ps).map (·.length)).sum + 2 * (PyData.shownAll ps).length ≤ n
  dp : PyData.depthAll ps ≤ k
  nd : PyData.hasDictAll ps = false
  ly : PyData.canLayAll0 ps = true
theorem pw_int {M : Mem} {i : Int} (h : i.natAbs < 2 ^ 1920) : Pw M (.int i) (.int i) 1921 0 := ⟨.int i, Sh.int (log_small h (Nat.le_refl _) (by decide)), rfl⟩
theorem pw_bl {M : Mem} {b : Bool} : Pw M (.bl b) (.bool b) 1921 0 := ⟨.bl b, Sh.bl b, rfl⟩
theorem pw_non {M : Mem} : Pw M .non .none 1921 0 := ⟨.non, Sh.non, rfl⟩
theorem pw_str {M : Mem} {x : Str} (h : (reprText x).length ≤ 1921) (h2 : PyData.canLay0 (.str x) = true) : Pw M (.str x) (.str x) 1921 0 := ⟨.str x, Sh.str h, h2⟩
theorem pw_tI {M : Mem} {ns : List Int} (h : SmallI ns) : Pw M (tI ns) (.tuple (ns.map .int)) (ns.length * 1923 + 4) 1 := ⟨.tup (.ints ns), by have := Sh.tup (Sh.ints h); rwa [List.length_map] at this, by simp [PyData.canLay0, canLay_ints]⟩
theorem pw_lI {M : Mem} {ns : List Int} (h : SmallI ns) : Pw M (lI ns) (.list (ns.map .int)) (ns.length * 1923 + 4) 1 := ⟨.lst rfl (.ints ns), by have := Sh.lst (Sh.ints h); rwa [List.length_map] at this, by simp [PyData.canLay0, canLay_ints]⟩
theorem pwl_nil {M : Mem} : PwL M [] [] 0 0 := ⟨.nil, rfl, by simp [PyData.shownAll], by simp [PyData.depthAll], rfl, rfl⟩
theorem pwl_cons {M : Mem} {d : D} {p : PyData} {ds : List D} {ps : List PyData} {n m k j : Nat} (a : Pw M d p n k) (r : PwL M ds ps m j) : PwL M (d :: ds) (p :: ps) (n + 2 + m) (max k j) := (by exact HA.Wq.get : @HA.Wq (PwL M (d :: ds) (p :: ps) (n + 2 + m) (max k j)) (by
  have h1 := a.sh.ln
  have h2 := r.ln
  have h3 := a.sh.dp
  have h4 := r.dp
  refine ⟨.cons a.dr r.dr, by simp [PyData.showableAll, a.sh.sh, r.sh], ?_, ?_, by simp [PyData.hasDictAll, a.sh.nd, r.nd], by simp [PyData.canLayAll0, a.ly, r.ly]⟩
  · simp only [PyData.shownAll, List.map_cons, List.sum_cons, List.length_cons]; omega
  · simp only [PyData.depthAll]; omega))
theorem pwl_map {α : Type} {M : Mem} {f : α → D} {g : α → PyData} {n k : Nat} : ∀ {l : List α}, (∀ a ∈ l, Pw M (f a) (g a) n k) → PwL M (l.map f) (l.map g) (l.length * (n + 2)) k
  | [], _ => ⟨.nil, rfl, by simp [PyData.shownAll], by simp [PyData.depthAll], rfl, rfl⟩
  | a :: l, h => by
    have := pwl_cons (h a List.mem_cons_self) (pwl_map fun b hb => h b (List.mem_cons_of_mem _ hb))
    refine ⟨this.dr, this.sh, Nat.le_trans this.ln ?_, Nat.le_trans this.dp (by omega), this.nd, this.ly⟩
    rw [List.length_cons, Nat.add_mul, Nat.one_mul]; omega
theorem pw_tup {M : Mem} {ds : List D} {ps : List PyData} {n k : Nat} (h : PwL M ds ps n k) : Pw M (.tup ds) (.tuple ps) (n + 4) (k + 1) := (by exact HA.Wq.get : @HA.Wq (Pw M (.tup ds) (.tuple ps) (n + 4) (k + 1)) (by
  refine ⟨.tup h.dr, ⟨by simpa [PyData.showable] using h.sh, ?_, by have := h.dp; simp only [PyData.depth]; omega, by simpa [PyData.hasDict] using h.nd⟩, by simpa [PyData.canLay0] using h.ly⟩
  have := tupleText_len_le (PyData.shownAll ps)
  have := h.ln
  simp only [PyData.shown]; omega))
theorem pw_lst' {M : Mem} {d : D} {ds : List D} {ps : List PyData} {n k : Nat} (e : LsAt M d ds) (h : PwL M ds ps n k) : Pw M d (.list ps) (n + 4) (k + 1) := (by exact HA.Wq.get : @HA.Wq (Pw M d (.list ps) (n + 4) (k + 1)) (by
  refine ⟨.lst e h.dr, ⟨by simpa [PyData.showable] using h.sh, ?_, by have := h.dp; simp only [PyData.depth]; omega, by simpa [PyData.hasDict] using h.nd⟩, by simpa [PyData.canLay0] using h.ly⟩
  have := listText_len_le (PyData.shownAll ps)
  have := h.ln
  simp only [PyData.shown]; omega))
theorem pw_lst {M : Mem} {ds : List D} {ps : List PyData} {n k : Nat} (h : PwL M ds ps n k) : Pw M (.lst ds) (.list ps) (n + 4) (k + 1) := pw_lst' rfl h
theorem pw_ref {M : Mem} {a : Addr} {ds : List D} {ps : List PyData} {n k : Nat} (e : M a = some (.lst ds)) (h : PwL M ds ps n k) : Pw M (.ref a) (.list ps) (n + 4) (k + 1) := pw_lst' e h
def tT (ns : List (List Int)) : D := .tup (ns.map tI)
theorem pw_tT {M : Mem} {nss : List (List Int)} {b : Nat} (h : ∀ ns ∈ nss, SmallI ns ∧ ns.length ≤ b) : Pw M (tT nss) (.tuple (nss.map fun ns => .tuple (ns.map .int))) (nss.length * (b * 1923 + 4 + 2) + 4) 2 := (by exact HA.Wq.get : @HA.Wq (Pw M (tT nss) (.tuple (nss.map fun ns => .tuple (ns.map .int))) (nss.length * (b * 1923 + 4 + 2) + 4) 2) (by
  refine pw_tup (ds := nss.map tI) (pwl_map fun ns hn => ?_)
  obtain ⟨h1, h2⟩ := h ns hn
  have := pw_tI (M := M) h1
  exact ⟨this.dr, this.sh.mono (by have := Nat.mul_le_mul_right 1923 h2; omega) (Nat.le_refl _), this.ly⟩))
theorem i_repr {M : Mem} {Q : DK} {d : D} {p : PyData} {n k : Nat} (h : Pw M d p n k) (hn : n ≤ 16777216) (hk : k ≤ 60) (q : Q (.str p.shown) M) : cRepr [d] M Q := cRepr_of h.dr (h.sh.ok hn hk) q
theorem Pw.shaped {M : Mem} {d : D} {p : PyData} {n k : Nat} (h : Pw M d p n k) (hk : k ≤ 60) : SeqAt.shaped p = true := by
  have := h.sh.dp
  simp [SeqAt.shaped, h.ly]; omega
/-- the same data, of tuples or lists -/
theorem i_eqPt {M : Mem} {Q : DK} {b : Bool} {xs : List D} {e : D} {p q : PyData} {n k m j : Nat} (h1 : Pw M (.tup xs) p n k) (h2 : Pw M e q m j) (hk : k ≤ 60) (hj : j ≤ 60) (h : Q (.bl (b ^^ PyData.eqv p q)) M) : bEq b (.tup xs) e M Q := ⟨p, q, h1.dr, h2.dr, h1.shaped hk, h2.shaped hj, h⟩
theorem i_eqPl {M : Mem} {Q : DK} {b : Bool} {xs : List D} {e : D} {p q : PyData} {n k m j : Nat} (h1 : Pw M (.lst xs) p n k) (h2 : Pw M e q m j) (hk : k ≤ 60) (hj : j ≤ 60) (h : Q (.bl (b ^^ PyData.eqv p q)) M) : bEq b (.lst xs) e M Q := ⟨p, q, h1.dr, h2.dr, h1.shaped hk, h2.shaped hj, h⟩
theorem i_eqPr {M : Mem} {Q : DK} {b : Bool} {a : Addr} {e : D} {p q : PyData} {n k m j : Nat} (h1 : Pw M (.ref a) p n k) (h2 : Pw M e q m j) (hk : k ≤ 60) (hj : j ≤ 60) (h : Q (.bl (b ^^ PyData.eqv p q)) M) : bEq b (.ref a) e M Q := ⟨p, q, h1.dr, h2.dr, h1.shaped hk, h2.shaped hj, h⟩
/-- the same tree twice -/
theorem i_eqTt {M : Mem} {Q : DK} {b : Bool} {xs : List D} {p : PyData} {n k : Nat} (h1 : Pw M (.tup xs) p n k) (hk : k ≤ 60) (h : Q (.bl (b ^^ true)) M) : bEq b (.tup xs) (.tup xs) M Q := i_eqPt h1 h1 hk hk (by rw [eqv_refl _ h1.sh.nd]; exact h)
theorem i_eqTl {M : Mem} {Q : DK} {b : Bool} {xs : List D} {p : PyData} {n k : Nat} (h1 : Pw M (.lst xs) p n k) (hk : k ≤ 60) (h : Q (.bl (b ^^ true)) M) : bEq b (.lst xs) (.lst xs) M Q := i_eqPl h1 h1 hk hk (by rw [eqv_refl _ h1.sh.nd]; exact h)
theorem e_S0 {M : Mem} {Q : DK} {x : Str} (h : Q (.bl true) M) : bEq false (.str x) (.str x) M Q := i_eqS (by simpa using h)
theorem e_S1 {M : Mem} {Q : DK} {x : Str} (h : Q (.bl false) M) : bEq true (.str x) (.str x) M Q := i_eqS (by simpa using h)
theorem e_I0 {M : Mem} {Q : DK} {x : Int} (h : Q (.bl true) M) : bEq false (.int x) (.int x) M Q := i_eqI (by simpa using h)
theorem e_I1 {M : Mem} {Q : DK} {x : Int} (h : Q (.bl false) M) : bEq true (.int x) (.int x) M Q := i_eqI (by simpa using h)
theorem e_t0 {M : Mem} {Q : DK} {x : List Int} (h : Q (.bl true) M) : bEq false (tI x) (tI x) M Q := i_eqtI (by simpa using h)
theorem e_t1 {M : Mem} {Q : DK} {x : List Int} (h : Q (.bl false) M) : bEq true (tI x) (tI x) M Q := i_eqtI (by simpa using h)
theorem e_l0 {M : Mem} {Q : DK} {x : List Int} (h : Q (.bl true) M) : bEq false (lI x) (lI x) M Q := i_eqlI (by simpa using h)
theorem e_l1 {M : Mem} {Q : DK} {x : List Int} (h : Q (.bl false) M) : bEq true (lI x) (lI x) M Q := i_eqlI (by simpa using h)
theorem e_T0 {M : Mem} {Q : DK} {xs : List D} {p : PyData} {n k : Nat} (h1 : Pw M (.tup xs) p n k) (hk : k ≤ 60) (h : Q (.bl true) M) : bEq false (.tup xs) (.tup xs) M Q := i_eqTt h1 hk h
theorem e_T1 {M : Mem} {Q : DK} {xs : List D} {p : PyData} {n k : Nat} (h1 : Pw M (.tup xs) p n k) (hk : k ≤ 60) (h : Q (.bl false) M) : bEq true (.tup xs) (.tup xs) M Q := i_eqTt h1 hk h
theorem e_L0 {M : Mem} {Q : DK} {xs : List D} {p : PyData} {n k : Nat} (h1 : Pw M (.lst xs) p n k) (hk : k ≤ 60) (h : Q (.bl true) M) : bEq false (.lst xs) (.lst xs) M Q := i_eqTl h1 hk h
theorem e_L1 {M : Mem} {Q : DK} {xs : List D} {p : PyData} {n k : Nat} (h1 : Pw M (.lst xs) p n k) (hk : k ≤ 60) (h : Q (.bl false) M) : bEq true (.lst xs) (.lst xs) M Q := i_eqTl h1 hk h
theorem f6 {a b c d e f : Int} : D.tup [.int a, .int b, .int c, .int d, .int e, .int f] = tI [a, b, c, d, e, f] := rfl
theorem g6 {a b c d e f : Int} : D.lst [.int a, .int b, .int c, .int d, .int e, .int f] = lI [a, b, c, d, e, f] := rfl
theorem f7 {a b c d e f g : Int} : D.tup [.int a, .int b, .int c, .int d, .int e, .int f, .int g] = tI [a, b, c, d, e, f, g] := rfl
theorem g7 {a b c d e f g : Int} : D.lst [.int a, .int b, .int c, .int d, .int e, .int f, .int g] = lI [a, b, c, d, e, f, g] := rfl
theorem f8 {a b c d e f g h : Int} : D.tup [.int a, .int b, .int c, .int d, .int e, .int f, .int g, .int h] = tI [a, b, c, d, e, f, g, h] := rfl
theorem g8 {a b c d e f g h : Int} : D.lst [.int a, .int b, .int c, .int d, .int e, .int f, .int g, .int h] = lI [a, b, c, d, e, f, g, h] := rfl
theorem f9 {a b c d e f g h i : Int} : D.tup [.int a, .int b, .int c, .int d, .int e, .int f, .int g, .int h, .int i] = tI [a, b, c, d, e, f, g, h, i] := rfl
theorem g9 {a b c d e f g h i : Int} : D.lst [.int a, .int b, .int c, .int d, .int e, .int f, .int g, .int h, .int i] = lI [a, b, c, d, e, f, g, h, i] := rfl
theorem f10 {a b c d e f g h i j : Int} : D.tup [.int a, .int b, .int c, .int d, .int e, .int f, .int g, .int h, .int i, .int j] = tI [a, b, c, d, e, f, g, h, i, j] := rfl
theorem g10 {a b c d e f g h i j : Int} : D.lst [.int a, .int b, .int c, .int d, .int e, .int f, .int g, .int h, .int i, .int j] = lI [a, b, c, d, e, f, g, h, i, j] := rfl
theorem f11 {a b c d e f g h i j k : Int} : D.tup [.int a, .int b, .int c, .int d, .int e, .int f, .int g, .int h, .int i, .int j, .int k] = tI [a, b, c, d, e, f, g, h, i, j, k] := rfl
theorem g11 {a b c d e f g h i j k : Int} : D.lst [.int a, .int b, .int c, .int d, .int e, .int f, .int g, .int h, .int i, .int j, .int k] = lI [a, b, c, d, e, f, g, h, i, j, k] := rfl
theorem f12 {a b c d e f g h i j k l : Int} : D.tup [.int a, .int b, .int c, .int d, .int e, .int f, .int g, .int h, .int i, .int j, .int k, .int l] = tI [a, b, c, d, e, f, g, h, i, j, k, l] := rfl
theorem g12 {a b c d e f g h i j k l : Int} : D.lst [.int a, .int b, .int c, .int d, .int e, .int f, .int g, .int h, .int i, .int j, .int k, .int l] = lI [a, b, c, d, e, f, g, h, i, j, k, l] := rfl
theorem i_isNn {M : Mem} {Q : DK} {b : Bool} (h : Q (.bl !b) M) : bIsN b .non .non M Q := by cases b <;> exact h
theorem i_isNx {M : Mem} {Q : DK} {b : Bool} {x : D} (hx : isNon x = false) (h : Q (.bl b) M) : bIsN b x .non M Q := i_isN (by rw [hx]; cases b <;> exact h)
theorem br_nt {A B : Prop} (h : B) : ((!true) = true → A) ∧ ((!true) = false → B) := br_false h
theorem br_nf {A B : Prop} (h : A) : ((!false) = true → A) ∧ ((!false) = false → B) := br_true h
theorem i_isiT {M : Mem} {Q : DK} {x : D} {S T : String} (h : TyD M x S) (hT : T ∈ tyTab) (e : isB S T = true) (q : Q (.bl true) M) : cIsi [x, .ty T] M Q := ⟨S, h, hT, by rw [e]; exact q⟩
theorem i_isiF {M : Mem} {Q : DK} {x : D} {S T : String} (h : TyD M x S) (hT : T ∈ tyTab) (e : isB S T = false) (q : Q (.bl false) M) : cIsi [x, .ty T] M Q := ⟨S, h, hT, by rw [e]; exact q⟩
theorem erase_map : ∀ {k : Nat} {ns : List Int}, (ns.map D.int).eraseIdx k = (ns.eraseIdx k).map D.int
  | _, [] => rfl
  | 0, n :: r => rfl
  | k + 1, n :: r => by
    show _ :: (r.map D.int).eraseIdx k = _ :: (r.eraseIdx k).map D.int
    rw [erase_map]
theorem i_popat {M : Mem} {Q : DK} {p : Addr} {ns : List Int} {i : Int} (hM : M p = some (.lst (ns.map .int))) (h0 : 0 ≤ i) (h1 : i < ns.length) (hl : ns.length ≤ 1000000) (q : Q (.int (ns.getD i.toNat 0)) (mset M p (.lst ((ns.eraseIdx i.toNat).map .int)))) : mPopAt (.ref p) [.int i] M Q := (by exact HA.Wq.get : @HA.Wq (mPopAt (.ref p) [.int i] M Q) (by
  obtain ⟨k, rfl⟩ : ∃ k : Nat, i = k := ⟨i.toNat, by omega⟩
  rw [Int.toNat_natCast] at q
  have hk : k < ns.length := by omega
  refine ⟨_, k, .int ns[k], hM, by omega, ?_, by simp [hk], ?_⟩
  · unfold seqIndex?
    have e : (if (k : Int) < 0 then (k : Int) + ((ns.map D.int).length : Nat) else (k : Int)) = k := if_neg (by omega)
    simp only [e]
    rw [if_pos (by simp [hk])]; simp
  · rw [List.getD_eq_getElem?_getD, List.getElem?_eq_getElem hk] at q
    have e : (ns.map D.int).eraseIdx k = (ns.eraseIdx k).map D.int := erase_map
    rw [e]; exact q))
theorem sm64 {i : Int} (h : i.natAbs < 18446744073709551616) : i.natAbs < 2 ^ 1920 := Nat.lt_of_lt_of_le h (by decide +kernel)
theorem smN {i : Int} (b : Nat) (h : i.natAbs < 2 ^ b) (hb : b ≤ 1920) : i.natAbs < 2 ^ 1920 := Nat.lt_of_lt_of_le h (Nat.pow_le_pow_right (by decide) hb)
theorem br_tt {A B : Prop} (h : A) : ((false ^^ true) = true → A) ∧ ((false ^^ true) = false → B) := br_true h
theorem br_tf {A B : Prop} (h : B) : ((true ^^ true) = true → A) ∧ ((true ^^ true) = false → B) := br_false h
end HA
/-! A29: enumerate of a tuple. -/
namespace HA
open PySem PySem.Spec PyProof.Rows L2
open Sem (wp)
set_option maxHeartbeats 1000000 in
theorem meets_enumerate_newT {v : Value} {o : Obj} {H : Heap → Prop} (B : Begins v o H) :
    Meets (Builtin.«enumerate.__new__» ⟨[.type "enumerate", v], []⟩) (fun _ R s => H s.heap ∧
      R (.ok (.ret (.ref (s.heap.push o).objs.size))) { s with heap := (s.heap.push o).push { cls := .type "enumerate", data := .fields #[.none, .bool false, .ref s.heap.objs.size, rawInt 0, .none, .none] } }) :=
  .of_wp fun prog w A R s h => by
    obtain ⟨hp, g, d, tk, os⟩ := s; obtain ⟨h1, h⟩ := h
    have hsub := sub_enumerate
    have q1 : ∀ {A' : Around} {E : Value → Shared → Prop} {Q : Value → Shared → Prop}, Q (.ref hp.objs.size) ⟨hp.push o, g, d, tk, os⟩ → wpAny (model prog w) A' (pyIter v) Q E ⟨hp, g, d, tk, os⟩ :=
      fun q => B.iter prog w _ _ ⟨hp, g, d, tk, os⟩ _ h1 q
    wp_walk using q1
    refine wpAny_stack_any fun st => wpAny_pure ?_
    split
    · rename_i c _ _ _ _ _
      cases (c == Value.type "enumerate")
      · wp_walk using q1
        exact ⟨_, rfl, h⟩
      · wp_walk using q1
        exact ⟨_, rfl, h⟩
    · wp_walk using q1
      exact ⟨_, rfl, h⟩
theorem call_enumerate_tup {prog : Program} {w : World} {A : Around} {E : Value → Shared → Prop} {s : Shared} {t : Addr} {items : Array Value} {Q : Value → Shared → Prop} (hL : s.heap.IsTuple t items)
    (h : ∀ h', IsEnum h' (s.heap.objs.size + 1) s.heap.objs.size 0 .none → h'.IsTupleIter s.heap.objs.size t 0 → h'.objs.size = s.heap.objs.size + 2 →
      (∀ b o, s.heap.get? b = some o → h'.get? b = some o) → Q (.ref (s.heap.objs.size + 1)) { s with heap := h' }) :
    wpAny (model prog w) A (call (.type "enumerate") [.ref t]) Q E s := by
  have B := begins_tuple t items
  refine callType_new F.called_enumerate (by decide) (F.typeCall_enumerate_1 _) (F.newCall_enumerate_1 _) (fun obj => F.args_object_init_2 obj _) F.entry_enumerate_new
    (meets_enumerate_newT B) ⟨hL, ?_⟩
  have hz : (s.heap.push { cls := .type "tuple_iterator", data := .fields #[.ref t, .int 0 0] }).objs.size = s.heap.objs.size + 1 := Heap.size_push ..
  show _ ∧ _
  rw [hz]
  have he : IsEnum ((s.heap.push { cls := .type "tuple_iterator", data := .fields #[.ref t, .int 0 0] }).push
      { cls := .type "enumerate", data := .fields #[.none, .bool false, .ref s.heap.objs.size, rawInt 0, .none, .none] }) (s.heap.objs.size + 1) s.heap.objs.size 0 .none := by
    have := Heap.get?_push_size (s.heap.push { cls := .type "tuple_iterator", data := .fields #[.ref t, .int 0 0] })
      (o := { cls := .type "enumerate", data := .fields #[.none, .bool false, .ref s.heap.objs.size, rawInt 0, .none, .none] }) rfl
    rw [hz] at this; exact this
  refine ⟨⟨_, he, rfl⟩, h _ he ⟨_, Heap.get?_push_of_some _ (Heap.get?_push_size _ rfl), rfl, rfl⟩ (by rw [Heap.size_push, hz]) fun b o x => Heap.get?_push_of_some _ (Heap.get?_push_of_some _ x)⟩
theorem pyNext_enumT_end {prog : Program} {w : World} {A : Around} {E : Value → Shared → Prop} {s : Shared} {e it l : Addr} {i : Nat} {items : Array Value} {old : Value} {Q : Option Value → Shared → Prop} (hh : A.handled = none)
    (he : IsEnum s.heap e it i old) (hit : s.heap.IsTupleIter it l i) (hl : s.heap.IsTuple l items) (hx : items[i]? = none)
    (hQ : ∀ h', Heap.ExtBut it s.heap h' → Q none { s with heap := h' }) : wpAny (model prog w) A (pyNext (.ref e)) Q E s := by
  have hT : s.TypeIs (.ref e) "enumerate" := ⟨_, he, rfl⟩
  unfold pyNext
  refine wpAny_bind (wpAny_attempt (wpAny_callSpecial?_slot (name := Str.ofString "__next__") hT F.slot_enumerate_next
    (wpAny_call_entry F.slot_enumerate_next hT F.entry_enumerate_next ?_ (F.args_enumerate_next_1 _))))
  show wpAny _ _ (field (.ref e) 2 >>= _) _ _ _
  refine wpAny_bind (wpAny_field he rfl (x := .ref it) rfl ?_)
  refine wpAny_bind (RZ.nextOf_tuple_end hh hit hl hx fun h' x he' hx' => ?_)
  obtain ⟨o, ho, hc⟩ := hx'
  refine wpAny_bind (wpAny_isInstance (T := "StopIteration") (b := true) ⟨o, ho, hc⟩ isSubtype_stop ?_)
  exact wpAny_pure (hQ _ he')
/-- the tuple at a as it stands at each turn, each item in a new pair -/
def IteT (K : PySem.W.Frag) (a : Addr) : It :=
  ⟨fun i H => ∃ (xs : List V) (x : V), SqT K H a xs ∧ xs[i]? = some x, fun i H v H' => ∃ T x, v = .ref T ∧ H T = none ∧ H' = upd H T (.tup [.int (i : Nat), x]) ∧ ∀ xs, SqT K H a xs → xs[i]? = some x, fun i H => ∃ xs : List V, SqT K H a xs ∧ xs.length ≤ i⟩
theorem turn_enumT {P : Program} {w : World} {K : PySem.W.Frag} {elts : List Expr} {kk : Nat} {tpos : Pos} {a e it : Addr} (hai : a ≠ it) (hae : e ≠ a) :
    Turn P w K (.Tuple elts kk tpos) (IteT K a) [e, it] e (fun i h => (∃ old, IsEnum h e it ((i : Nat) : Int) old) ∧ h.IsTupleIter it a i ∧ e ≠ it) where
  mem := by simp
  obj := fun i h st b hb => by
    obtain ⟨⟨old, he⟩, ⟨o, ho, hc, hd⟩, _⟩ := st
    have e' : b = e ∨ b = it := by simpa using hb
    rcases e' with z | z
    · rw [z]; exact ⟨_, he, fun v q => nomatch q⟩
    · rw [z]; exact ⟨o, ho, fun v q => by rw [hd] at q; cases q⟩
  keep := fun i h h' st k => let ⟨⟨old, he⟩, hi, hne⟩ := st; ⟨⟨old, k e (by simp) _ he⟩, hi.at fun o q => k it (by simp) o q, hne⟩
  item := by
    intro X hP hw hK hc i pins s σ H E I hf st hg
    subst hP hw hK
    obtain ⟨⟨old, he⟩, hit, hne⟩ := st
    obtain ⟨xs, x, hq, hx⟩ := hg
    obtain ⟨its, rv, p, hz⟩ := I.tuple hq
    obtain ⟨u, hu, ru⟩ := rv.get hx
    have hel : e < s.heap.objs.size := Heap.lt_size he
    have hil : it < s.heap.objs.size := by obtain ⟨_, q, _⟩ := hit; exact Heap.lt_size q
    have hlt : i < its.toArray.size := by
      have := rv.length
      have := (List.getElem?_eq_some_iff.mp hx).1
      simp; omega
    refine wpAny_pyNext_enum_itemD (Draws.tuple (A := X.A.in1) (show X.A.in1.handled = none from I.ok.hd hc) it a hai its.toArray) he ⟨hit, p⟩ hlt hne (by simp; exact ⟨hne, hae⟩) fun x' h' tk hx' ho hst hT hsz hk => ?_
    obtain rfl : x' = u := by
      have : its[i]? = some x' := by simpa using hx'
      rw [hu] at this; cases this; rfl
    refine ⟨_, rfl, wpAny_letOwnedTupleGo_enum (s := { s with heap := h', toks := tk + 1 }) ho fun h'' he' sb => ?_⟩
    have hT2 : h''.get? s.heap.objs.size = some { cls := .type "tuple", data := .seq #[.int i tk, x'] } := (sb.2 _ (Nat.ne_of_gt hel)).trans hT
    have new : ObjOk X.prog X.w (upd H s.heap.objs.size (.tup [.int (i : Nat), x])) h'' s.heap.objs.size (.tup [.int (i : Nat), x]) :=
      ⟨by show 2 ≤ sizeLine; decide, [.int i tk, x'], .cons ⟨_, rfl⟩ (.cons ru .nil), ⟨_, hT2, rfl, _, rfl⟩⟩
    have I1 : Inv X pins σ (upd H s.heap.objs.size (.tup [.int (i : Nat), x])) { s with heap := h'', toks := tk + 1 } :=
      I.turnedNew (ch := [e, it]) (fun b ob hb q => (sb.2 b (fun z => hb (by simp [z]))).trans (hk b ob (fun z => hb (by simp [z])) (fun z => hb (by simp [z])) q)) hf (Nat.le_refl _) new
    refine ⟨.ref s.heap.objs.size, _, I1, rfl, ⟨_, x, rfl, I.hok.fresh (Nat.le_refl _), rfl, fun ys hy => by rw [I.tuple_inj hy hq]; exact hx⟩, ⟨⟨x', ?_⟩, hst.1.at fun o q => (sb.2 it (Ne.symm hne)).trans q, hne⟩, fun b hb => ?_⟩
    · have e1 : ((i + 1 : Nat) : Int) = (i : Int) + 1 := by omega
      rw [e1]; exact he'
    · have hb' : b < s.heap.objs.size := by
        have e' : b = e ∨ b = it := by simpa using hb
        rcases e' with z | z
        · rw [z]; exact hel
        · rw [z]; exact hil
      rw [upd_ne (Nat.ne_of_lt hb')]
      exact (hf b hb).1
  done := by
    intro X hP hw hK hc i pins s σ H E I hf st hg
    subst hP hw hK
    obtain ⟨⟨old, he⟩, hit, hne⟩ := st
    obtain ⟨xs, hq, hx⟩ := hg
    obtain ⟨its, rv, p, hz⟩ := I.tuple hq
    obtain ⟨f0, f1, f2, f3, f4, f5⟩ := hf it (by simp)
    have hl := rv.length
    exact pyNext_enumT_end (I.ok.hd hc) he hit p (by simp; omega) fun h' eb => ⟨rfl, I.turned (t' := s.toks) (fun b o hb q => eb b o hb q) f0 f1 f3 f4 f5⟩
  self := fun A i s Q E st h => let ⟨⟨_, he⟩, _⟩ := st; wpAny_pyIter_enum he h
def iEnumT (K : PySem.W.Frag) (ta : TA) : TI := fun σ H R => ta σ H fun vs H1 => ∃ a xs, vs = [.ref a] ∧ SqT K H1 a xs ∧ R (IteT K a) H1
theorem pi_enumT {X : Cx} {e : Expr} {ta : TA} {p pos tpos : Pos} {elts : List Expr} {kk : Nat} (hg : Gl X "enumerate") (hm : X.mg "enumerate" = none) (ha : PA X [e] ta) (hs : starEach [e] X.env = [(false, eval e X.env)] := by rfl) :
    PI X (.Tuple elts kk tpos) (.Call (.Name "enumerate" p) [e] [] pos) (iEnumT X.K ta) := by
  refine ⟨fun pins s σ H R I h => ?_⟩
  refine Call_ (ld_blt I hg hm boot_enumerate (PyProof.Rows.callWith_type1 (thn (ha.run pos pins s σ H _ I h) fun us s1 ⟨vs, H1, I1, r1, q1⟩ => ?_) hs rfl))
  obtain ⟨a, xs, ex, hq, q⟩ := q1
  subst ex
  cases r1 with
  | cons r rr =>
    cases rr
    cases r
    obtain ⟨its, rv, p', hz⟩ := I1.tuple hq
    have hal : a < s1.heap.objs.size := by obtain ⟨_, q, _⟩ := p'; exact Heap.lt_size q
    refine call_enumerate_tup p' fun h' he hit hsz hk => wpAny_pyIter_enum he ?_
    have I2 : Inv X pins σ H1 { s1 with heap := h' } := I1.kept (t' := s1.toks) hk
    refine ⟨s1.heap.objs.size + 1, [s1.heap.objs.size + 1, s1.heap.objs.size], _, _, H1, rfl, I2, turn_enumT (Nat.ne_of_lt hal) (Nat.ne_of_gt (Nat.lt_succ_of_lt hal)), ⟨⟨.none, he⟩, hit, Nat.succ_ne_self _⟩, fun b hb => ?_, q⟩
    have e' : b = s1.heap.objs.size + 1 ∨ b = s1.heap.objs.size := by simpa using hb
    have hle : s1.heap.objs.size ≤ b := by
      rcases e' with z | z
      · rw [z]; exact Nat.le_add_right _ _
      · rw [z]; exact Nat.le_refl _
    exact I1.fpOk hle (I1.hok.fresh hle)
theorem itok_enumT {K : PySem.W.Frag} {G : Hp} {a : Addr} {xs : List D} {st : Mem → Prop} (h : ∀ G' M H, Same G G' → SM K G' M H → st M → ∃ vs, SqT K H a vs ∧ RpA K G' xs vs) : ItOk K G (enumD xs) st (IteT K a) where
  go := fun i G' M H hi e m s => by
    rw [enumD_len] at hi
    obtain ⟨vs, h1, h2⟩ := h G' M H e m s
    obtain ⟨v, hv⟩ := get_lt (xs := vs) (i := i) (by rw [← h2.len]; exact hi)
    exact ⟨vs, v, h1, hv⟩
  stop := fun i G' M H hi e m s => by
    rw [enumD_len] at hi
    obtain ⟨vs, h1, h2⟩ := h G' M H e m s
    exact ⟨vs, h1, by rw [← h2.len]; exact hi⟩
  yld := fun i G' M H x H' hi e m s y => by
    rw [enumD_len] at hi
    obtain ⟨vs, h1, h2⟩ := h G' M H e m s
    obtain ⟨T, u, rfl, hT, rfl, hu⟩ := y
    obtain ⟨d, hd, r⟩ := h2.getV (hu vs h1)
    have g0 := (m.free hT).1
    refine ⟨.tup [.int (i : Nat), d], _, by rw [enumD_get hi, hd]; rfl, same_upd g0, m.frozen hT, .tup (.inl upd_same) (.cons (.int _) (.cons (r.up (same_upd g0)) .nil))⟩
section
variable {X : Cx} {B : Hp} {W : WX} {e : Expr} {te : AE} {tas : AA} {pos p tpos : Pos} {elts : List Expr} {kk : Nat}
def aEnumT (t : AA) : AI := fun σ M Q E => t σ M (fun ds M1 => match ds with
  | [.tup xs] => Q (enumD xs) (fun _ => True) M1
  | _ => False) E
theorem qi_enumT (hg : Gl X "enumerate") (hm : X.mg "enumerate" = none) (ha : QA X B W [e] tas) (hs : starEach [e] X.env = [(false, eval e X.env)] := by rfl) : QI X B W (.Tuple elts kk tpos) (.Call (.Name "enumerate" p) [e] [] pos) (aEnumT tas) :=
  pi_imp (pi_enumT hg hm ha hs) fun s H R ⟨G, σ, M, Q, E, ss, h, k, kx⟩ => ⟨G, σ, M, _, E, ss, h, fun vs H1 ds M1 G1 e1 m1 r1 q => by
    match ds, q with
    | [.tup xs], q =>
      obtain ⟨v, rfl, rv⟩ := rpa1 r1
      obtain ⟨a, ws, rfl, p1, t⟩ := rp_tup rv
      have ok : ItOk X.K G1 (enumD xs) (fun _ => True) (IteT X.K a) := itok_enumT fun G' M' H' e' m' _ => ⟨ws, same_sqt m'.same (same_sqt e' p1), t.up e'⟩
      exact ⟨a, ws, rfl, same_sqt m1.same p1, k _ H1 _ _ M1 G1 e1 m1 ok q⟩, kx⟩
end
/-! ### zip of two tuples, of two lists -/
def zipD (xs ys : List D) : List D := List.zipWith (fun x y => D.tup [x, y]) xs ys
theorem zipD_len {xs ys : List D} : (zipD xs ys).length = min xs.length ys.length := by simp [zipD]
theorem zipD_get {xs ys : List D} {i : Nat} {x y : D} (h1 : xs[i]? = some x) (h2 : ys[i]? = some y) : (zipD xs ys)[i]? = some (.tup [x, y]) := by
  simp [zipD, List.getElem?_zipWith, h1, h2]
theorem itok_zipT {K : PySem.W.Frag} {G : Hp} {a b : Addr} {xs ys : List D} {st : Mem → Prop} (h : ∀ G' M H, Same G G' → SM K G' M H → st M → ∃ vs us, SqT K H a vs ∧ RpA K G' xs vs ∧ SqT K H b us ∧ RpA K G' ys us) : ItOk K G (zipD xs ys) st (RZ.ItzT K a b) where
  go := fun i G' M H hi e m s => by
    rw [zipD_len] at hi
    obtain ⟨vs, us, h1, h2, h3, h4⟩ := h G' M H e m s
    obtain ⟨v, hv⟩ := get_lt (xs := vs) (i := i) (by rw [← h2.len]; omega)
    obtain ⟨u, hu⟩ := get_lt (xs := us) (i := i) (by rw [← h4.len]; omega)
    exact ⟨vs, us, v, u, h1, h3, hv, hu⟩
  stop := fun i G' M H hi e m s => by
    rw [zipD_len] at hi
    obtain ⟨vs, us, h1, h2, h3, h4⟩ := h G' M H e m s
    exact ⟨vs, us, h1, h3, by rw [← h2.len, ← h4.len]; omega⟩
  yld := fun i G' M H x H' hi e m s y => by
    rw [zipD_len] at hi
    obtain ⟨vs, us, h1, h2, h3, h4⟩ := h G' M H e m s
    obtain ⟨T, u, v, rfl, hT, rfl, hu, hv⟩ := y
    obtain ⟨d1, hd1, r1⟩ := h2.getV (hu vs h1)
    obtain ⟨d2, hd2, r2⟩ := h4.getV (hv us h3)
    have g0 := (m.free hT).1
    exact ⟨.tup [d1, d2], _, zipD_get hd1 hd2, same_upd g0, m.frozen hT, .tup (.inl upd_same) (.cons (r1.up (same_upd g0)) (.cons (r2.up (same_upd g0)) .nil))⟩
theorem itok_zipL {K : PySem.W.Frag} {G : Hp} {a b : Addr} {xs ys : List D} {st : Mem → Prop} (h : ∀ G' M H, Same G G' → SM K G' M H → st M → ∃ vs us, SqL K H a vs ∧ RpA K G' xs vs ∧ SqL K H b us ∧ RpA K G' ys us) : ItOk K G (zipD xs ys) st (Itz K a b) where
  go := fun i G' M H hi e m s => by
    rw [zipD_len] at hi
    obtain ⟨vs, us, h1, h2, h3, h4⟩ := h G' M H e m s
    obtain ⟨v, hv⟩ := get_lt (xs := vs) (i := i) (by rw [← h2.len]; omega)
    obtain ⟨u, hu⟩ := get_lt (xs := us) (i := i) (by rw [← h4.len]; omega)
    exact ⟨vs, us, v, u, h1, h3, hv, hu⟩
  stop := fun i G' M H hi e m s => by
    rw [zipD_len] at hi
    obtain ⟨vs, us, h1, h2, h3, h4⟩ := h G' M H e m s
    exact ⟨vs, us, h1, h3, by rw [← h2.len, ← h4.len]; omega⟩
  yld := fun i G' M H x H' hi e m s y => by
    rw [zipD_len] at hi
    obtain ⟨vs, us, h1, h2, h3, h4⟩ := h G' M H e m s
    obtain ⟨T, u, v, rfl, hT, rfl, hu, hv⟩ := y
    obtain ⟨d1, hd1, r1⟩ := h2.getV (hu vs h1)
    obtain ⟨d2, hd2, r2⟩ := h4.getV (hv us h3)
    have g0 := (m.free hT).1
    exact ⟨.tup [d1, d2], _, zipD_get hd1 hd2, same_upd g0, m.frozen hT, .tup (.inl upd_same) (.cons (r1.up (same_upd g0)) (.cons (r2.up (same_upd g0)) .nil))⟩
def zipK (Q : List D → (Mem → Prop) → Mem → Prop) (ds : List D) (M1 : Mem) : Prop := match ds with
  | [.tup xs, .tup ys] => Q (zipD xs ys) (fun _ => True) M1
  | [x, y] => ∃ xs ys, LsAt M1 x xs ∧ LsAt M1 y ys ∧ Q (zipD xs ys) (fun M => still x xs M ∧ still y ys M) M1
  | _ => False
def aZip (t : AA) : AI := fun σ M Q E => t σ M (zipK Q) E
theorem rep_ls {K : PySem.W.Frag} {G : Hp} {a : Addr} {x : D} {xs : List D} {M1 : Mem} (h1 : LsAt M1 x xs) (rv : Rp K G x (.ref a)) :
    ∀ G' M H, Same G G' → SM K G' M H → still x xs M → ∃ vs, SqL K H a vs ∧ RpA K G' xs vs := fun G' M' H' e' m' s' => by
  have r' := rv.up e'
  match x, h1, s', r' with
  | .lst ys, h1, s', r' => cases h1; cases r' with | lst g t => exact ⟨_, .of (m'.same _ _ g), t⟩
  | .frz ys, h1, s', r' => cases h1; cases r' with | frz g t => exact ⟨_, m'.same.seq g, t⟩
  | .ref b, h1, s', r' => cases r'; obtain ⟨vs, t, eH⟩ := cellL m' s'; exact ⟨vs, .of eH, t⟩
section
variable {X : Cx} {B : Hp} {W : WX} {e e2 : Expr} {tas : AA} {pos p tpos : Pos} {elts : List Expr} {kk : Nat}
theorem qi_zip (hg : Gl X "zip") (hm : X.mg "zip" = none) (ha : QA X B W [e, e2] tas)
    (hs : starEach [e, e2] X.env = (false, eval e X.env) :: starEach [e2] X.env := by rfl) (hpl : (backTo pos (starEach [e2] X.env)).any (·.1) = false := by rfl) : QI X B W (.Tuple elts kk tpos) (.Call (.Name "zip" p) [e, e2] [] pos) (aZip tas) :=
  pi_imp (RZ.pi_zipA hg hm ha hs hpl) fun s H R ⟨G, σ, M, Q, E, ss, h, k, kx⟩ => ⟨G, σ, M, _, E, ss, h, fun vs H1 ds M1 G1 e1 m1 r1 q => by
    unfold zipK at q
    split at q
    · next xs ys =>
      obtain ⟨v, u, rfl, rv, ru⟩ := rpa2 r1
      obtain ⟨a, ws, rfl, p1, t⟩ := rp_tup rv
      obtain ⟨b, us, rfl, p2, t2⟩ := rp_tup ru
      have ok : ItOk X.K G1 (zipD xs ys) (fun _ => True) (RZ.ItzT X.K a b) := itok_zipT fun G' M' H' e' m' _ => ⟨ws, us, same_sqt m'.same (same_sqt e' p1), t.up e', same_sqt m'.same (same_sqt e' p2), t2.up e'⟩
      exact ⟨a, b, ws, us, rfl, .inr ⟨same_sqt m1.same p1, same_sqt m1.same p2, k _ H1 _ _ M1 G1 e1 m1 ok q⟩⟩
    · obtain ⟨xs, ys, l1, l2, q⟩ := q
      obtain ⟨v, u, rfl, rv, ru⟩ := rpa2 r1
      refine lsAt m1 rv l1 fun a ws ea p t => ?_
      refine lsAt m1 ru l2 fun b us eb p2 t2 => ?_
      subst ea eb
      have ok : ItOk X.K G1 (zipD xs ys) (fun M => still _ xs M ∧ still _ ys M) (Itz X.K a b) := itok_zipL fun G' M' H' e' m' s' => by
        obtain ⟨vs, a1, a2⟩ := rep_ls l1 rv G' M' H' e' m' s'.1
        obtain ⟨us, b1, b2⟩ := rep_ls l2 ru G' M' H' e' m' s'.2
        exact ⟨vs, us, a1, a2, b1, b2⟩
      exact ⟨a, b, ws, us, rfl, .inl ⟨p, p2, k _ H1 _ _ M1 G1 e1 m1 ok q⟩⟩
    · exact q.elim, kx⟩
end
/-! ### steps -/
section
variable {σ : AS} {M : Mem} {Q : List D → (Mem → Prop) → Mem → Prop} {E : AXs} {tas : AA} {xs ys : List D}
def enumK (Q : List D → (Mem → Prop) → Mem → Prop) (ds : List D) (M1 : Mem) : Prop := match ds with
  | [.tup xs] => Q (enumD xs) (fun _ => True) M1
  | _ => False
theorem i_enumT (h : tas σ M (enumK Q) E) : aEnumT tas σ M Q E := h
theorem i_ent (h : Q (enumD xs) (fun _ => True) M) : enumK Q [.tup xs] M := h
theorem i_entI {ns : List Int} (h : Q (enumD (ns.map .int)) (fun _ => True) M) : enumK Q [tI ns] M := h
theorem i_zip (h : tas σ M (zipK Q) E) : aZip tas σ M Q E := h
theorem i_zpt (h : Q (zipD xs ys) (fun _ => True) M) : zipK Q [.tup xs, .tup ys] M := h
theorem i_zptI {ns ms : List Int} (h : Q (zipD (ns.map .int) (ms.map .int)) (fun _ => True) M) : zipK Q [tI ns, tI ms] M := h
theorem i_zplI {ns ms : List Int} (h : Q (zipD (ns.map .int) (ms.map .int)) (fun _ => True) M) (hw : ∀ xs st st' M, Q xs st M → (∀ N, st' N) → Q xs st' M) : zipK Q [lI ns, lI ms] M := ⟨_, _, rfl, rfl, hw _ _ _ _ h fun _ => ⟨trivial, trivial⟩⟩
end
theorem for_enum {xs : List D} {st : Mem → Prop} {g : AG} {tb : ASt} {nx : AS → Mem → Prop} {rt : DK} {xx : AXs} {σ0 : AS} {M0 : Mem} (S : Nat → AS → Mem → Prop) (h0 : S 0 σ0 M0)
    (turn : ∀ i x, xs[i]? = some x → ∀ σ M, S i σ M → st M ∧ g (.tup [.int (i : Nat), x]) σ M (fun σ2 M2 => tb ⟨S (i + 1), rt, nx, S (i + 1), xx⟩ σ2 M2) xx) (fin : ∀ σ M, S xs.length σ M → st M ∧ nx σ M) : ForQ (enumD xs) st g tb nx rt xx σ0 M0 := (by exact HA.Wq.get : @HA.Wq (ForQ (enumD xs) st g tb nx rt xx σ0 M0) (by
  refine ⟨S, h0, fun i x σ M hx v => ?_, fun σ M v => fin σ M (by rw [enumD_len] at v; exact v)⟩
  have hi : i < xs.length := by rw [← enumD_len]; exact (List.getElem?_eq_some_iff.mp hx).1
  obtain ⟨y, hy⟩ := get_lt hi
  rw [enumD_get hi, hy] at hx
  cases hx
  exact turn i y hy σ M v))
/-- zip of two lists made of the same length -/
theorem zip_map {α : Type} {f g : α → D} {l : List α} : zipD (l.map f) (l.map g) = l.map fun a => D.tup [f a, g a] := by
  simp [zipD, List.zipWith_map, List.zipWith_self]
theorem zip_ints {ns ms : List Int} : zipD (ns.map .int) (ms.map .int) = (List.zip ns ms).map fun p => tI [p.1, p.2] := by
  simp [zipD, List.zipWith_map, List.zip, List.map_zipWith]
  rfl
/-! ### xs.extend(a list or a tuple) -/
@[simp] def mExt : AM := fun x ys M Q => match x, ys with
  | .ref p, [.tup zs] => ∃ xs, M p = some (.lst xs) ∧ xs.length + zs.length ≤ sizeLine ∧ Q .non (mset M p (.lst (xs ++ zs)))
  | .ref p, [y] => ∃ xs zs, M p = some (.lst xs) ∧ LstAt M y zs ∧ xs.length + zs.length ≤ sizeLine ∧ Q .non (mset M p (.lst (xs ++ zs)))
  | _, _ => False
theorem mExt_ok {K : PySem.W.Frag} : OkMt K mExt (fun x vs H Q => rExtend x vs H Q ∨ rExtendT K x vs H Q) := fun G M H x xs xv vs Q R m rx ra h k => by
  unfold mExt at h
  split at h
  · obtain ⟨ys, h1, h3, h4⟩ := h
    obtain ⟨v, rfl, r⟩ := rpa1 ra
    cases rx
    obtain ⟨ws, t, e⟩ := cellL m h1
    obtain ⟨b, us, rfl, pb, tb⟩ := rp_tup r
    exact .inr ⟨_, b, ws, us, rfl, rfl, e, same_sqt m.same pb, by rw [← t.len, ← tb.len]; exact h3, Kv.wr m k h1 (t.app tb) .non h4⟩
  · obtain ⟨ys, zs, h1, h2, h3, h4⟩ := h
    obtain ⟨v, rfl, r⟩ := rpa1 ra
    cases rx
    obtain ⟨ws, t, e⟩ := cellL m h1
    refine lstAt m r h2 fun b us eb pb tb => ?_
    subst eb
    exact .inl ⟨_, b, ws, us, rfl, rfl, e, pb, by rw [← t.len, ← tb.len]; exact h3, Kv.wr m k h1 (t.app tb) .non h4⟩
  · exact h.elim
theorem mt_ext {X : Cx} : MtR X "list.extend" (fun x vs H Q => rExtend x vs H Q ∨ rExtendT X.K x vs H Q) := fun pins s σ H x xs v us Q I rx rv h => h.elim (mt_extend pins s σ H x xs v us Q I rx rv) (mt_extendT pins s σ H x xs v us Q I rx rv)
section
variable {X : Cx} {B : Hp} {W : WX} {e o : Expr} {ta : AE} {tas : AA} {apos cpos : Pos}
theorem qe_ext (ho : QE X B W o ta) (ha : QA X B W [e] tas)
    (hbase : attributeBase o "extend" X.env (eval o X.env) = eval o X.env := by rfl)
    (hfew : ((backTo cpos (starEach [e] X.env)).all (fun x => !x.1) && (backToKw cpos (keywordEach [] X.env)).all (fun x => x.1.isSome)
      && decide (([e] : List Expr).length + ([] : List Keyword).length + (if ([] : List Keyword).isEmpty then 0 else 1) < 30)) = true := by rfl)
    (hline : (apos.endLine == cpos.line) = true := by rfl) (hs : starEach [e] X.env = (false, eval e X.env) :: starEach [] X.env := by rfl) (hplain : (backTo cpos (starEach [] X.env)).any (·.1) = false := by rfl) :
    QE X B W (.Call (.Attribute o "extend" apos) [e] [] cpos) (aMt mExt ta tas) := qe_lm PySem.F.slot_list_extend PySem.F.type_list_extend mt_ext mExt_ok ho ha hbase hfew hline hs hplain
end
section
variable {M : Mem} {Q : DK} {p : Addr} {xs zs : List D}
theorem i_ext (hM : M p = some (.lst xs)) (hz : xs.length + zs.length ≤ sizeLine) (h : Q .non (mset M p (.lst (xs ++ zs)))) : mExt (.ref p) [.tup zs] M Q := ⟨xs, hM, hz, h⟩
theorem i_extI {ns : List Int} (hM : M p = some (.lst xs)) (hz : xs.length + ns.length ≤ sizeLine) (h : Q .non (mset M p (.lst (xs ++ ns.map .int)))) : mExt (.ref p) [tI ns] M Q := ⟨xs, hM, by simpa using hz, h⟩
theorem i_exlI {ns : List Int} (hM : M p = some (.lst xs)) (hz : xs.length + ns.length ≤ sizeLine) (h : Q .non (mset M p (.lst (xs ++ ns.map .int)))) : mExt (.ref p) [lI ns] M Q := ⟨xs, ns.map .int, hM, rfl, by simpa using hz, h⟩
end
/-! ### x is True, x is False -/
@[simp] def bIsB (neg : Bool) : A2 := fun x y M Q => match x, y with
  | .bl a, .bl b => Q (.bl (neg ^^ decide (a = b))) M
  | _, _ => False
theorem c_isB {X : Cx} : CmpOk X .Is (bIsB false) := ⟨_, op_isBl, fun G M H x y xv yv Q R m rx ry h k => by
  match x, y, h with
  | .bl a, .bl b, h => cases rx; cases ry; exact ⟨a, b, rfl, rfl, k _ _ (.here m (.bl _) (by simpa using h))⟩⟩
theorem c_isnotB {X : Cx} : CmpOk X .IsNot (bIsB true) := ⟨_, op_notBl, fun G M H x y xv yv Q R m rx ry h k => by
  match x, y, h with
  | .bl a, .bl b, h => cases rx; cases ry; exact ⟨a, b, rfl, rfl, k _ _ (.here m (.bl _) (by simpa using h))⟩⟩
theorem i_isBt {M : Mem} {Q : DK} {n a : Bool} (h : Q (.bl (n ^^ a)) M) : bIsB n (.bl a) (.bl true) M Q := by cases a <;> exact h
theorem i_isBf {M : Mem} {Q : DK} {n a : Bool} (h : Q (.bl (n ^^ !a)) M) : bIsB n (.bl a) (.bl false) M Q := by cases a <;> exact h
theorem i_tuplerI {M : Mem} {Q : DK} {p : Addr} {ns : List Int} (hp : M p = some (.lst (ns.map .int))) (h : Q (tI ns) M) : cTuple [.ref p] M Q := ⟨_, hp, h⟩
theorem i_fznr {M M' : Mem} {d : D} {k : D → Prop} (hr : ∀ a, d ≠ .ref a) (m : MLe M M') (h : k d) : fzD M M' d k := by
  cases d with
  | ref a => exact absurd rfl (hr a)
  | _ => exact ⟨m, h⟩
end HA
/-! A32: more steps. -/
namespace HA
open PySem PySem.Spec L2
section
variable {M : Mem} {Q : DK} {p : Addr} {ns : List Int} {xs : List D} {lo hi : Option Int}
theorem i_slrI (hp : M p = some (.lst (ns.map .int))) (h : Q (lI (cut ns lo hi)) M) : sSlF (.ref p) lo hi M Q := ⟨_, hp, by rw [cut_mapI]; exact h⟩
theorem i_slr (hp : M p = some (.lst xs)) (h : Q (.lst (cut xs lo hi)) M) : sSlF (.ref p) lo hi M Q := ⟨_, hp, h⟩
end
/-- cuts by numbers -/
theorem cut_ij {α : Type} {xs : List α} {i j : Int} (hi : 0 ≤ i) (hj : 0 ≤ j) : cut xs (some i) (some j) = (xs.drop i.toNat).take (j.toNat - i.toNat) := (by exact HA.Wq.get : @HA.Wq (cut xs (some i) (some j) = (xs.drop i.toNat).take (j.toNat - i.toNat)) (by
  obtain ⟨a, rfl⟩ := Int.eq_ofNat_of_zero_le hi
  obtain ⟨b, rfl⟩ := Int.eq_ofNat_of_zero_le hj
  unfold cut
  rw [HT.sIx_nat, HT.sIx_nat, Int.toNat_natCast, Int.toNat_natCast]
  by_cases h : a ≤ xs.length
  · rw [Nat.min_eq_left h, List.take_eq_take_iff, List.length_drop]; omega
  · rw [List.drop_of_length_le (by omega), List.drop_of_length_le (by omega)]; simp))
theorem cut_i {α : Type} {xs : List α} {i : Int} (hi : 0 ≤ i) : cut xs (some i) none = xs.drop i.toNat := by
  obtain ⟨a, rfl⟩ := Int.eq_ofNat_of_zero_le hi
  exact cut_from
theorem cut_j {α : Type} {xs : List α} {i : Int} (hi : 0 ≤ i) : cut xs none (some i) = xs.take i.toNat := by
  obtain ⟨a, rfl⟩ := Int.eq_ofNat_of_zero_le hi
  exact cut_to
theorem oct_getD {ns : List Int} (h : Oct ns) (i : Nat) : 0 ≤ ns.getD i 0 ∧ ns.getD i 0 < 256 := (by exact HA.Wq.get : @HA.Wq (0 ≤ ns.getD i 0 ∧ ns.getD i 0 < 256) (by
  rw [List.getD_eq_getElem?_getD]
  cases e : ns[i]? with
  | none => decide
  | some w => exact h w (List.mem_of_getElem? e)))
/-- one thing exchanged -/
def bend {α : Type} (xs : List α) (a : Nat) (v : α) : List α := xs.take a ++ [v] ++ xs.drop (a + 1)
theorem bend_len {α : Type} {xs : List α} {a : Nat} {v : α} (h : a < xs.length) : (bend xs a v).length = xs.length := by simp [bend]; omega
theorem bend_oct {ns : List Int} {a : Nat} {v : Int} (h : Oct ns) (h0 : 0 ≤ v) (h1 : v < 256) : Oct (bend ns a v) := (h.take.app (.one h0 h1)).app h.drop
theorem bend_ne {ns : List Int} {a : Nat} {v : Int} (ha : a < ns.length) (hv : v ≠ ns.getD a 0) : bend ns a v ≠ ns := fun e => by
  have h1 : (bend ns a v)[a]? = ns[a]? := by rw [e]
  unfold bend at h1
  rw [List.append_assoc, List.getElem?_append_right (by simp; omega)] at h1
  rw [List.getElem?_eq_getElem ha] at h1
  simp [Nat.min_eq_left (Nat.le_of_lt ha)] at h1
  apply hv
  rw [List.getD_eq_getElem?_getD, List.getElem?_eq_getElem ha]; exact h1
theorem cut_ni {α : Type} {xs : List α} {i : Int} (hi : i < 0) : cut xs (some i) none = xs.drop (i + xs.length).toNat := by
  unfold cut
  rw [HT.sIx_none, show HT.sIx xs.length 0 (some i) = (i + (xs.length : Int)).toNat from if_pos hi, List.take_of_length_le (by simp)]
theorem cut_nj {α : Type} {xs : List α} {i : Int} (hi : i < 0) : cut xs none (some i) = xs.take (i + xs.length).toNat := by
  unfold cut
  rw [HT.sIx_none, show HT.sIx xs.length xs.length (some i) = (i + (xs.length : Int)).toNat from if_pos hi, List.drop_zero, Nat.sub_zero]
theorem i_addr {M : Mem} {Q : DK} {p : Addr} {xs ys : List D} (hp : M p = some (.lst xs)) (c : xs.length + ys.length ≤ sizeLine) (h : Q (.lst (xs ++ ys)) M) : bAddF (.ref p) (.lst ys) M Q := ⟨xs, ys, hp, rfl, c, h⟩
theorem i_baddl {M : Mem} {Q : DK} {xs ys : List Int} (c : xs.length + ys.length ≤ sizeLine) (h : ∀ p, M p = none → Q (.ref p) (mset M p (.lst ((xs ++ ys).map .int)))) : bAdd (lI xs) (lI ys) M Q := ⟨_, _, rfl, rfl, by simpa using c, by rw [← List.map_append]; exact h⟩
theorem i_addrI {M : Mem} {Q : DK} {p : Addr} {xs ys : List Int} (hp : M p = some (.lst (xs.map .int))) (c : xs.length + ys.length ≤ sizeLine) (h : Q (lI (xs ++ ys)) M) : bAddF (.ref p) (lI ys) M Q := ⟨_, _, hp, rfl, by simpa using c, by rw [← List.map_append]; exact h⟩
theorem ix_t {M : Mem} {Q : DK} {ns : List Int} {a : Int} {k : Nat} (ea : a = k) (hk : k < ns.length) (h : Q (.int (ns.getD k 0)) M) : bIx (tI ns) (.int a) M Q := (by exact HA.Wq.get : @HA.Wq (bIx (tI ns) (.int a) M Q) (by
  subst ea
  refine i_ixt (xs := ns.map .int) (d := .int (ns.getD k 0)) ?_ h
  rw [atI_map, atI_nat hk]
  simp [List.getD_eq_getElem?_getD, List.getElem?_eq_getElem hk]))
theorem ix_l {M : Mem} {Q : DK} {ns : List Int} {a : Int} {k : Nat} (ea : a = k) (hk : k < ns.length) (h : Q (.int (ns.getD k 0)) M) : bIx (lI ns) (.int a) M Q := (by exact HA.Wq.get : @HA.Wq (bIx (lI ns) (.int a) M Q) (by
  subst ea
  refine i_ixl (xs := ns.map .int) (d := .int (ns.getD k 0)) ?_ h
  rw [atI_map, atI_nat hk]
  simp [List.getD_eq_getElem?_getD, List.getElem?_eq_getElem hk]))
theorem ix_r {M : Mem} {Q : DK} {p : Addr} {ns : List Int} {a : Int} {k : Nat} (hp : M p = some (.lst (ns.map .int))) (ea : a = k) (hk : k < ns.length) (h : Q (.int (ns.getD k 0)) M) : bIx (.ref p) (.int a) M Q := (by exact HA.Wq.get : @HA.Wq (bIx (.ref p) (.int a) M Q) (by
  subst ea
  refine i_ixr hp (d := .int (ns.getD k 0)) ?_ h
  rw [atI_map, atI_nat hk]
  simp [List.getD_eq_getElem?_getD, List.getElem?_eq_getElem hk]))
theorem f13 {a0 a1 a2 a3 a4 a5 a6 a7 a8 a9 a10 a11 a12 : Int} : D.tup [.int a0, .int a1, .int a2, .int a3, .int a4, .int a5, .int a6, .int a7, .int a8, .int a9, .int a10, .int a11, .int a12] = tI [a0, a1, a2, a3, a4, a5, a6, a7, a8, a9, a10, a11, a12] := rfl
theorem g13 {a0 a1 a2 a3 a4 a5 a6 a7 a8 a9 a10 a11 a12 : Int} : D.lst [.int a0, .int a1, .int a2, .int a3, .int a4, .int a5, .int a6, .int a7, .int a8, .int a9, .int a10, .int a11, .int a12] = lI [a0, a1, a2, a3, a4, a5, a6, a7, a8, a9, a10, a11, a12] := rfl
theorem f14 {a0 a1 a2 a3 a4 a5 a6 a7 a8 a9 a10 a11 a12 a13 : Int} : D.tup [.int a0, .int a1, .int a2, .int a3, .int a4, .int a5, .int a6, .int a7, .int a8, .int a9, .int a10, .int a11, .int a12, .int a13] = tI [a0, a1, a2, a3, a4, a5, a6, a7, a8, a9, a10, a11, a12, a13] := rfl
theorem g14 {a0 a1 a2 a3 a4 a5 a6 a7 a8 a9 a10 a11 a12 a13 : Int} : D.lst [.int a0, .int a1, .int a2, .int a3, .int a4, .int a5, .int a6, .int a7, .int a8, .int a9, .int a10, .int a11, .int a12, .int a13] = lI [a0, a1, a2, a3, a4, a5, a6, a7, a8, a9, a10, a11, a12, a13] := rfl
theorem f15 {a0 a1 a2 a3 a4 a5 a6 a7 a8 a9 a10 a11 a12 a13 a14 : Int} : D.tup [.int a0, .int a1, .int a2, .int a3, .int a4, .int a5, .int a6, .int a7, .int a8, .int a9, .int a10, .int a11, .int a12, .int a13, .int a14] = tI [a0, a1, a2, a3, a4, a5, a6, a7, a8, a9, a10, a11, a12, a13, a14] := rfl
theorem g15 {a0 a1 a2 a3 a4 a5 a6 a7 a8 a9 a10 a11 a12 a13 a14 : Int} : D.lst [.int a0, .int a1, .int a2, .int a3, .int a4, .int a5, .int a6, .int a7, .int a8, .int a9, .int a10, .int a11, .int a12, .int a13, .int a14] = lI [a0, a1, a2, a3, a4, a5, a6, a7, a8, a9, a10, a11, a12, a13, a14] := rfl
theorem f16 {a0 a1 a2 a3 a4 a5 a6 a7 a8 a9 a10 a11 a12 a13 a14 a15 : Int} : D.tup [.int a0, .int a1, .int a2, .int a3, .int a4, .int a5, .int a6, .int a7, .int a8, .int a9, .int a10, .int a11, .int a12, .int a13, .int a14, .int a15] = tI [a0, a1, a2, a3, a4, a5, a6, a7, a8, a9, a10, a11, a12, a13, a14, a15] := rfl
theorem g16 {a0 a1 a2 a3 a4 a5 a6 a7 a8 a9 a10 a11 a12 a13 a14 a15 : Int} : D.lst [.int a0, .int a1, .int a2, .int a3, .int a4, .int a5, .int a6, .int a7, .int a8, .int a9, .int a10, .int a11, .int a12, .int a13, .int a14, .int a15] = lI [a0, a1, a2, a3, a4, a5, a6, a7, a8, a9, a10, a11, a12, a13, a14, a15] := rfl
theorem br_fT {A B : Prop} (h : B) : (false = true → A) ∧ (True → B) := ⟨nofun, fun _ => h⟩
theorem br_tT {A B : Prop} (h : A) : (True → A) ∧ (true = false → B) := ⟨fun _ => h, nofun⟩
theorem br_FT {A B : Prop} (h : B) : (False → A) ∧ (True → B) := ⟨nofun, fun _ => h⟩
theorem br_TF {A B : Prop} (h : A) : (True → A) ∧ (False → B) := ⟨fun _ => h, nofun⟩
theorem tn_ac {a : Nat} {b : Int} (hb : 0 ≤ b) : ((a : Int) + b).toNat = a + b.toNat := by omega
theorem br_x0 {A B : Prop} (h : B) : ((true ^^ !false) = true → A) ∧ ((true ^^ !false) = false → B) := br_false h
theorem br_x1 {A B : Prop} (h : A) : ((false ^^ !false) = true → A) ∧ ((false ^^ !false) = false → B) := br_true h
theorem br_x2 {A B : Prop} (h : A) : ((true ^^ !true) = true → A) ∧ ((true ^^ !true) = false → B) := br_true h
theorem br_x3 {A B : Prop} (h : B) : ((false ^^ !true) = true → A) ∧ ((false ^^ !true) = false → B) := br_false h
theorem br_x4 {A B : Prop} (h : A) : ((true ^^ false) = true → A) ∧ ((true ^^ false) = false → B) := br_true h
theorem br_x5 {A B : Prop} (h : B) : ((false ^^ false) = true → A) ∧ ((false ^^ false) = false → B) := br_false h
/-! try, what a suite reads -/
section
variable {nx : AS → Mem → Prop} {rt : DK} {bk ct : AS → Mem → Prop} {xx : AXs} {σ : AS} {M : Mem} {Q : DK} {E : AXs} {te : AE} {tas : AA} {z : Wd} {c d i : Nat} {f : Str} {fs : List (Str × D)} {a : Addr} {x : D} {b : Bool} {tb : ASt} {ts : ASu}
theorem i_tryAs {K : PySem.W.Frag} {C : Addr} (h : tb ⟨nx, rt, bk, ct, xTry K C (fun a C fs σ' M' => ts a C fs ⟨fun σ M => nx (σ.set i none) M, rt, fun σ M => bk (σ.set i none) M, fun σ M => ct (σ.set i none) M, EF⟩ (σ'.set i (some (.ref a))) M') xx⟩ σ M) : aTryAs K C i tb ts ⟨nx, rt, bk, ct, xx⟩ σ M := h
theorem i_tryOnly {K : PySem.W.Frag} {C : Addr} (h : tb ⟨nx, rt, bk, ct, xTry K C (fun a C fs σ' M' => ts a C fs ⟨nx, rt, bk, ct, EF⟩ σ' M') xx⟩ σ M) : aTryOnly K C tb ts ⟨nx, rt, bk, ct, xx⟩ σ M := h
theorem i_xT {g : Addr → Addr → List (Str × D) → AS → Mem → Prop} (x : Exm z c d true) (h : ∀ a, M a = none → g a (z.C c) fs σ M) : xTry z.K (z.C d) g xx σ (z.C c) fs M := ⟨true, x.exm, fun _ => h, nofun⟩
theorem i_xF {g : Addr → Addr → List (Str × D) → AS → Mem → Prop} (x : Exm z c d false) (h : xx σ (z.C c) fs M) : xTry z.K (z.C d) g xx σ (z.C c) fs M := ⟨false, x.exm, nofun, fun _ => h⟩
theorem i_exF (r : ErrR z c f) (e : fs.lookup f = some x) (h : te σ M (fun y M1 => y = .ref a ∧ Q x M1) E) : aExF z.K a (z.C c) fs f te σ M Q E := (by exact HA.Wq.get : @HA.Wq (aExF z.K a (z.C c) fs f te σ M Q E) (by
  show te σ M (fun y M1 => y = .ref a ∧ ErrG z.K (z.C c) f ∧ ∃ d, fs.lookup f = some d ∧ Q d M1) E
  have : (fun (y : D) (M1 : Mem) => y = .ref a ∧ ErrG z.K (z.C c) f ∧ ∃ d, fs.lookup f = some d ∧ Q d M1) = fun y M1 => y = .ref a ∧ Q x M1 := by
    funext y M1
    apply propext
    exact ⟨fun ⟨h1, _, d, h2, h3⟩ => ⟨h1, by rw [e] at h2; cases h2; exact h3⟩, fun ⟨h1, h3⟩ => ⟨h1, r.g, x, e, h3⟩⟩
  rw [this]; exact h))
theorem i_reflref {R : Prop} (h : R) : D.ref a = D.ref a ∧ R := ⟨rfl, h⟩
def isEK (z : Wd) (a : Addr) (c : Nat) (Q : DK) : List D → Mem → Prop := fun xs M1 => ErrK z.K (z.C c) ∧ ∃ C b, xs = [.ref a, .ref C] ∧ PySem.W.kitOne z.K (.ref (z.C c)) (.ref C) = some b ∧ Q (.bl b) M1
theorem i_isE (h : tas σ M (isEK z a c Q) E) : aIsE z.K a (z.C c) tas σ M Q E := h
theorem i_isEK (r : ErrR z c f) (x : Exm z c d b) (h : Q (.bl b) M) : isEK z a c Q [.ref a, .ref (z.C d)] M := ⟨r.k, _, b, rfl, x.kit, h⟩
end
/-! built-ins of lists -/
section
variable {M : Mem} {Q : DK} {ns : List Int}
theorem i_sortI (h : ∀ ns' : List Int, ns'.Perm ns → ns'.Pairwise (· ≤ ·) → Q (lI ns') M) : cSortedF [lI ns] M Q := ⟨ns, rfl, h⟩
theorem i_sortM (h : ∀ ns' : List Int, ns'.Perm ns → ns'.Pairwise (· ≤ ·) → Q (lI ns') M) : cSortedF [.lst (ns.map .int)] M Q := ⟨ns, rfl, h⟩
theorem i_sumM (h : Q (.int ns.sum) M) : cSumL [.lst (ns.map .int)] M Q := ⟨ns, rfl, h⟩
theorem i_sumI (h : Q (.int ns.sum) M) : cSumL [lI ns] M Q := ⟨ns, rfl, h⟩
theorem i_maxI (h0 : 0 < ns.length) (h : ∀ m, m ∈ ns → (∀ y, y ∈ ns → y ≤ m) → Q (.int m) M) : cMaxL [lI ns] M Q := ⟨ns, rfl, h0, h⟩
theorem i_minI (h0 : 0 < ns.length) (h : ∀ m, m ∈ ns → (∀ y, y ∈ ns → m ≤ y) → Q (.int m) M) : cMinL [lI ns] M Q := ⟨ns, rfl, h0, h⟩
theorem i_allB {f : List Bool → Bool} {bs : List Bool} (h : Q (.bl (f bs)) M) : cAllL f [.lst (bs.map .bl)] M Q := ⟨bs, rfl, h⟩
end
theorem all_nat {p : Nat → Prop} {ys : List D} (h : ∀ (i : Nat) (y : D), ys[i]? = some y → ∃ k : Nat, y = .int k ∧ p k) : ∃ ks : List Nat, ys = (ks.map fun (k : Nat) => (k : Int)).map .int ∧ ∀ k ∈ ks, p k := (by exact HA.Wq.get : @HA.Wq (∃ ks : List Nat, ys = (ks.map fun (k : Nat) => (k : Int)).map .int ∧ ∀ k ∈ ks, p k) (by
  induction ys with
  | nil => exact ⟨[], rfl, fun _ h => nomatch h⟩
  | cons y r ih =>
    obtain ⟨w, rfl, hw⟩ := h 0 y rfl
    obtain ⟨ws, rfl, hs⟩ := ih fun i y hy => h (i + 1) y hy
    refine ⟨w :: ws, rfl, fun v hv => ?_⟩
    rcases List.mem_cons.mp hv with rfl | hv
    · exact hw
    · exact hs v hv))
/-- three numbers in their order -/
theorem sort3 {p : Nat → Prop} {ks : List Nat} {ns : List Int} (hl : ks.length = 3) (hp : ns.Perm (ks.map fun (k : Nat) => (k : Int))) (hs : ns.Pairwise (· ≤ ·)) (h : ∀ k ∈ ks, p k) : ∃ a b c : Nat, ns = [(a : Int), (b : Int), (c : Int)] ∧ a ≤ b ∧ b ≤ c ∧ p a ∧ p b ∧ p c := (by exact HA.Wq.get : @HA.Wq (∃ a b c : Nat, ns = [(a : Int), (b : Int), (c : Int)] ∧ a ≤ b ∧ b ≤ c ∧ p a ∧ p b ∧ p c) (by
  have h3 : ns.length = 3 := by rw [hp.length_eq, List.length_map, hl]
  match ns, h3 with
  | [x, y, w], _ =>
    have get : ∀ n ∈ [x, y, w], ∃ k : Nat, n = (k : Int) ∧ p k := fun n hn => by
      obtain ⟨k, hk, e⟩ := List.mem_map.mp (hp.mem_iff.mp hn)
      exact ⟨k, e.symm, h k hk⟩
    obtain ⟨a, rfl, pa⟩ := get x (by simp)
    obtain ⟨b, rfl, pb⟩ := get y (by simp)
    obtain ⟨c, rfl, pc⟩ := get w (by simp)
    simp only [List.pairwise_cons, List.mem_cons, List.not_mem_nil, or_false, forall_eq_or_imp, forall_eq] at hs
    exact ⟨a, b, c, rfl, by omega, by omega, pa, pb, pc⟩))
/-! a tuple so many times -/
theorem i_mul2I {M : Mem} {Q : DK} {i k : Int} (c : -4611686018427387904 ≤ k ∧ k ≤ 1000) (h : Q (tI (List.replicate k.toNat i)) M) : bMul2 (tI [i]) (.int k) M Q := (by exact HA.Wq.get : @HA.Wq (bMul2 (tI [i]) (.int k) M Q) (by
  have e : (List.replicate k.toNat [D.int i]).flatten = (List.replicate k.toNat i).map D.int := by
    generalize k.toNat = n
    induction n with
    | zero => rfl
    | succ n ih => rw [List.replicate_succ, List.flatten_cons, ih, List.replicate_succ]; rfl
  unfold bMul2 tI
  simp only [List.map_cons, List.map_nil]
  exact ⟨c, by simp, by rw [e]; exact h⟩))
end HA
/-! A33: sum(xs) of tuples, too. -/
namespace HA
open PySem PySem.Spec PyProof.Rows L2
def rSumTup (K : PySem.W.Frag) : List V → Hp → VK → Prop := fun vs H Q => ∃ (a : Addr) (ns : List Int), vs = [V.ref a] ∧ SqT K H a (ns.map V.int) ∧ Q (.int ns.sum) H
theorem cr_sumTup {X : Cx} (hc : X.calm = true) : CallR X (.builtin "sum") (rSumTup X.K) := (by exact HA.Wq.get : @HA.Wq (CallR X (.builtin "sum") (rSumTup X.K)) (by
  intro pins s σ H vs us Q I r h
  obtain ⟨a, ns, rfl, hs, q⟩ := h
  obtain ⟨its, rv, ht, _⟩ := I.tuple hs
  rw [Vals.ref1 r]
  have hi := rv.ints
  obtain ⟨xs, e⟩ := hi.allInts.items
  have hn : numsOf (intItems xs).toList = ns := by rw [← e]; exact hi.numsOf
  rw [nums_intItems] at hn
  rw [e] at ht
  obtain ⟨o, h1, h2, n, h3⟩ := ht
  refine PySem.W.ktm_sumG (I.ok.hd hc) ⟨o, h1, h2, n, h3⟩ fun h' tk t' hk => ?_
  rw [preSum_eq, List.take_of_length_le (by simp), hn]
  exact ⟨.int _, H, I.kept hk, ⟨_, rfl⟩, q⟩))
def cSumA : AC := fun xs M Q => match xs with
  | [.tup ds] => ∃ ns : List Int, ds = ns.map D.int ∧ Q (.int ns.sum) M
  | [x] => ∃ ns : List Int, LsAt M x (ns.map D.int) ∧ Q (.int ns.sum) M
  | _ => False
theorem cb_sumA {X : Cx} (hc : X.calm = true) : CallB X "sum" cSumA := ⟨fun vs H Q => rSum X.K vs H Q ∨ rSumTup X.K vs H Q, fun pins s σ H vs us Q I r h => h.elim (cr_sum hc pins s σ H vs us Q I r) (cr_sumTup hc pins s σ H vs us Q I r), fun G M H xs vs Q R m r h k => by
  have lst : ∀ x, xs = [x] → (∃ ns : List Int, LsAt M x (ns.map D.int) ∧ Q (.int ns.sum) M) → rSum X.K vs H R ∨ rSumTup X.K vs H R := fun x hx ⟨ns, h1, h2⟩ => by
    subst hx
    obtain ⟨v, rfl, rv⟩ := rpa1 r
    refine .inl (lsAt m rv h1 fun a ws e p t => ?_)
    subst e
    have e := t.of_ints
    subst e
    exact ⟨a, ns, rfl, p, k _ _ (.here m (.int _) h2)⟩
  cases xs with
  | nil => exact h.elim
  | cons x r2 =>
    cases r2 with
    | cons y r3 => cases x <;> exact h.elim
    | nil =>
      cases x with
      | tup ds =>
        obtain ⟨ns, h1, h2⟩ := h
        subst h1
        obtain ⟨v, rfl, rv⟩ := rpa1 r
        obtain ⟨a, vs, rfl, p, t⟩ := rp_tup rv
        have e := t.of_ints
        subst e
        exact .inr ⟨a, ns, rfl, same_sqt m.same p, k _ _ (.here m (.int _) h2)⟩
      | _ => exact lst _ rfl h⟩
section
variable {M : Mem} {Q : DK} {ns : List Int}
theorem s_sumt (h : Q (.int ns.sum) M) : cSumA [tI ns] M Q := ⟨ns, rfl, h⟩
theorem s_suml (h : Q (.int ns.sum) M) : cSumA [lI ns] M Q := ⟨ns, rfl, h⟩
theorem s_summ (h : Q (.int ns.sum) M) : cSumA [.lst (ns.map .int)] M Q := ⟨ns, rfl, h⟩
theorem s_sumr {p : Addr} (hp : M p = some (.lst (ns.map .int))) (h : Q (.int ns.sum) M) : cSumA [.ref p] M Q := ⟨ns, hp, h⟩
end
end HA
/-! A34: tuples of ints by their order. -/
namespace HA
open PySem PySem.Spec L2
def bLtA : A2 := fun x y M Q => ∃ ns ms : List Int, x = tI ns ∧ y = tI ms ∧ Q (.bl (HT.lexLt ns ms)) M
theorem c_ltA {X : Cx} (hu : X.A.units + 64 < cLine) : CmpOk X .Lt bLtA := ⟨_, op_ltT (by omega), fun G M H x y xv yv Q R m rx ry h k => by
  obtain ⟨ns, ms, rfl, rfl, q⟩ := h
  obtain ⟨a, vs, rfl, p, t⟩ := rp_tup rx
  obtain ⟨b, ws, rfl, p2, t2⟩ := rp_tup ry
  have e := t.of_ints
  have e2 := t2.of_ints
  subst e e2
  exact ⟨a, b, ns, ms, rfl, rfl, same_sqt m.same p, same_sqt m.same p2, k _ _ (.here m (.bl _) q)⟩⟩
theorem i_ltA {M : Mem} {Q : DK} {ns ms : List Int} (h : Q (.bl (HT.lexLt ns ms)) M) : bLtA (tI ns) (tI ms) M Q := ⟨ns, ms, rfl, rfl, h⟩
/-! the written things of a constant tuple, one by one -/
theorem vi_cons {i : Int} {t : Tok} {vs : List V} {us : List Value} (h : Vals vs us) : Vals (.int i :: vs) (.int i t :: us) := .cons ⟨t, rfl⟩ h
theorem vs_cons {x : Str} {t : Tok} {vs : List V} {us : List Value} (h : Vals vs us) : Vals (.str x :: vs) (.str x t :: us) := .cons ⟨t, rfl⟩ h
theorem vr_cons {a : Addr} {vs : List V} {us : List Value} (h : Vals vs us) : Vals (.ref a :: vs) (.ref a :: us) := .cons rfl h
end HA
/-! A36: o.f as a target among others. -/
namespace HA
open PySem PySem.Spec L2
section
variable {X : Cx} {B : Hp} {W : WX} {o : Expr} {to : TE} {ta : AE} {f : Str} {pos : Pos}
theorem pg_attr (ho : PE X o to) : PG X (.Attribute o f pos) (fun v σ H Q => to σ H fun x H1 => ∃ a C dx fs, x = .ref a ∧ H1 a = some (.ins C dx fs) ∧ Cls X.K C ∧ NoAttr X.K C f ∧ fs.length < 1000 ∧ Q σ (upd H1 a (.ins C dx (putF f v fs)))) := (by exact HA.Wq.get : @HA.Wq (PG X (.Attribute o f pos) (fun v σ H Q => to σ H fun x H1 => ∃ a C dx fs, x = .ref a ∧ H1 a = some (.ins C dx fs) ∧ Cls X.K C ∧ NoAttr X.K C f ∧ fs.length < 1000 ∧ Q σ (upd H1 a (.ins C dx (putF f v fs))))) (by
  refine ⟨fun pins s σ H v u Q I r h => ?_⟩
  rw [assign_Attribute]
  refine wpAny_bind (wpAny_holding (thn (ho.run pins s σ H _ I h) fun ov s1 ⟨x, H1, I1, rx, a, C, dx, fs, ex, ea, c, n, l, q⟩ => ?_))
  subst ex
  obtain rfl : ov = Value.ref a := rx
  exact wpAny_bind (wpAny_standAt (wpAny_bind (wpAny_holding (setattr_ok I1 ea c n l r fun s2 I2 => wpAny_release ⟨σ, _, I2, q⟩))))))
def agFld (K : PySem.W.Frag) (to : AE) (f : Str) : AG := fun d σ M Q E => to σ M (fun x M1 => fSet K f x d M1 fun M2 => Q σ M2) E
theorem qg_fld (ho : QE X B W o ta) : QG X B W [] (.Attribute o f pos) (agFld X.K ta f) :=
  pg_imp (pg_attr ho) fun v s H R ⟨G, σ, M, d, Q, E, ss, r, h, k, kx⟩ =>
    ⟨G, σ, M, _, E, ss, h, fun xv H1 ⟨x, M1, G1, e1, m1, r1, q1⟩ =>
      fSet_ok (P := fun H2 => R s H2) m1 r1 (r.up e1) q1 fun M2 H2 m2 q2 => k s H2 σ M2 G1 e1 (ss.with e1 m2) (.refl _ _) q2, kx⟩
end
theorem i_agf {K : PySem.W.Frag} {to : AE} {f : Str} {d : D} {σ : AS} {M : Mem} {Q : AS → Mem → Prop} {E : AXs} (h : to σ M (fun x M1 => fSet K f x d M1 fun M2 => Q σ M2) E) : agFld K to f d σ M Q E := h
end HA
set_option maxHeartbeats 1000000
/-! A37: t += u of tuples; lists of unlike lengths compared. -/
namespace HA
open PySem PySem.Spec L2 PyProof.Rows
section
variable {prog : Program} {w : World} {A : Around} {E : Value → Shared → Prop} {s : Shared}
theorem noI_tup : typeLookup (.type "tuple") (dunderI "add") = pure none := by rw [typeLookup_type, builtinLookup_eq_fast]; kernel_rfl
/-- a tuple's += is its + -/
theorem itup {t b : Addr} {its jts : Array Value} {Q : Value → Shared → Prop} (ht : IsTup s.heap t its) (hb : IsTup s.heap b jts)
    (h0 : its.isEmpty = true → Q (.ref b) s) (h1 : its.isEmpty = false → jts.isEmpty = true → Q (.ref t) s)
    (h2 : its.isEmpty = false → jts.isEmpty = false → Q (.ref s.heap.objs.size) { s with heap := s.heap.push { cls := .type "tuple", data := .seq (its ++ jts) } }) (hz : its.size + jts.size ≤ sizeLine) : wpAny (model prog w) A (inplaceOp .Add (.ref t) (.ref b)) Q E s := by
  obtain ⟨⟨c1, dd1, da1, sl1⟩, g1, e1, n1, k1⟩ := id ht
  obtain ⟨⟨c2, dd2, da2, sl2⟩, g2, e2, n2, k2⟩ := id hb
  dsimp only at e1 k1 e2 k2
  subst e1 k1 e2 k2
  have T1 : s.TypeIs (.ref t) "tuple" := ⟨_, g1, rfl⟩
  have T2 : s.TypeIs (.ref b) "tuple" := ⟨_, g2, rfl⟩
  refine wpAny_inplaceOp_concat T1 T2 noI_tup noFill_tuple_add seq_tuple_add ?_
  by_cases a1 : its.isEmpty = true
  · exact call_meets PySem.F.slot_tuple_add T1 PySem.F.entry_tuple_add (PySem.F.args_tuple_add_2 _ _) (tuple_addW0 t b its jts n1 n2 dd1 dd2 sl1 sl2 a1) ⟨g1, g2, h0 a1⟩
  · have a3 : its.isEmpty = false := by simpa using a1
    by_cases a2 : jts.isEmpty = true
    · exact call_meets PySem.F.slot_tuple_add T1 PySem.F.entry_tuple_add (PySem.F.args_tuple_add_2 _ _) (tuple_addW1 t b its jts n1 n2 dd1 dd2 sl1 sl2 a1 a2) ⟨g1, g2, h1 a3 a2⟩
    · exact call_meets PySem.F.slot_tuple_add T1 PySem.F.entry_tuple_add (PySem.F.args_tuple_add_2 _ _) (tuple_addW2 t b its jts n1 n2 dd1 dd2 sl1 sl2 a1 a2 hz) ⟨g1, g2, h2 a3 (by simpa using a2)⟩
end
section
variable {X : Cx} {B : Hp} {W : WX}
theorem iop_catA : OpR X (inplaceOp .Add) (rCatA X.K) := (by exact HA.Wq.get : @HA.Wq (OpR X (inplaceOp .Add) (rCatA X.K)) (by
  intro pins s σ H x y v u Q I rx ry h
  obtain ⟨a, b, xs, ys, rfl, rfl, ha, hb, hz, q0, q1, q2⟩ := h
  cases rx
  cases ry
  obtain ⟨its, r1, p1, _⟩ := I.tuple ha
  obtain ⟨jts, r2, p2, _⟩ := I.tuple hb
  have l1 := r1.length
  have l2 := r2.length
  refine itup p1 p2 (fun z => ⟨.ref b, H, I, rfl, q0 ?_⟩) (fun z z2 => ⟨.ref a, H, I, rfl, q1 ?_ ?_⟩) (fun z z2 => ?_) (by simp; omega)
  · apply List.length_eq_zero_iff.mp; simp at z; rw [z] at l1; simpa using l1
  · intro e; subst e; simp at z; apply z; apply List.length_eq_zero_iff.mp; simpa using l1.symm
  · apply List.length_eq_zero_iff.mp; simp at z2; rw [z2] at l2; simpa using l2
  · have e : its.toArray ++ jts.toArray = (its ++ jts).toArray := by simp
    rw [e]
    refine ⟨.ref s.heap.objs.size, _, I.laid (t' := s.toks) (o := .tup (xs ++ ys)) (fun b ob q => Heap.get?_push_of_some _ q) (Nat.le_refl _) ?_, rfl, q2 ?_ ?_ _ (I.hok.fresh (Nat.le_refl _))⟩
    · exact ⟨by rw [List.length_append]; exact hz, _, r1.append r2, IsTup.new _ _⟩
    · intro e; subst e; simp at z; apply z; apply List.length_eq_zero_iff.mp; simpa using l1.symm
    · intro e; subst e; simp at z2; apply z2; apply List.length_eq_zero_iff.mp; simpa using l2.symm))
/-- op= of tuples -/
def bIAddT : A2 := fun x y M Q => ∃ xs ys, x = .tup xs ∧ y = .tup ys ∧ xs.length + ys.length ≤ sizeLine ∧ Q (.tup (xs ++ ys)) M
theorem i_addT : IpOk X .Add bIAddT := ⟨_, pip_of iop_catA, fun G M H x y xv yv Q R m rx ry h k => by
  obtain ⟨xs, ys, rfl, rfl, hz, q⟩ := h
  obtain ⟨a, vs, rfl, p1, r1⟩ := rp_tup rx
  obtain ⟨b, ws, rfl, p2, r2⟩ := rp_tup ry
  refine ⟨a, b, vs, ws, rfl, rfl, same_sqt m.same p1, same_sqt m.same p2, by rw [← r1.len, ← r2.len]; exact hz, fun e => ?_, fun _ e => ?_, fun _ _ p hp => Kv.tup m k (r1.app r2) hp q⟩
  · subst e; cases r1; exact k _ _ (.here m ry q)
  · subst e; cases r2; exact k _ _ (.here m rx (by simpa using q))⟩
/-- lists of unlike lengths -/
def rLenE (K : PySem.W.Frag) (b : Bool) : R2 := fun x y H Q => ∃ a c xs ys, x = .ref a ∧ y = .ref c ∧ SqL K H a xs ∧ SqL K H c ys ∧ xs.length ≠ ys.length ∧ Q (.bl b) H
theorem op_eqLen (hu : X.A.units + 64 < cLine) : OpR X (compareOp .Eq) (rLenE X.K false) := (by exact HA.Wq.get : @HA.Wq (OpR X (compareOp .Eq) (rLenE X.K false)) (by
  intro pins s σ H x y v u Q I rx ry h
  obtain ⟨a, c, xs, ys, rfl, rfl, ha, hc, hl, q⟩ := h
  cases rx
  cases ry
  obtain ⟨its, r1, p1, _⟩ := I.list ha
  obtain ⟨jts, r2, p2, _⟩ := I.list hc
  exact SeqAt.eq_list_lengthsAt p1.isList p2.isList (by simp; rw [← r1.length, ← r2.length]; exact hl) (by omega) ⟨.bl false, H, I, rfl, q⟩))
theorem op_neLen (hu : X.A.units + 64 < cLine) : OpR X (compareOp .NotEq) (rLenE X.K true) := (by exact HA.Wq.get : @HA.Wq (OpR X (compareOp .NotEq) (rLenE X.K true)) (by
  intro pins s σ H x y v u Q I rx ry h
  obtain ⟨a, c, xs, ys, rfl, rfl, ha, hc, hl, q⟩ := h
  cases rx
  cases ry
  obtain ⟨its, r1, p1, _⟩ := I.list ha
  obtain ⟨jts, r2, p2, _⟩ := I.list hc
  exact SeqAt.RcNeAt.lists_lengths p1.isList p2.isList (by simp; rw [← r1.length, ← r2.length]; exact hl) (by omega) _ _ _ _ ⟨.bl true, H, I, rfl, q⟩))
/-- ==, also of lists of unlike lengths -/
def bEqZ (b : Bool) : A2 := fun x y M Q => bEq b x y M Q ∨ ∃ xs ys, LsAt M x xs ∧ LsAt M y ys ∧ xs.length ≠ ys.length ∧ Q (.bl b) M
theorem c_eqZ (hu : X.A.units + 64 < cLine) : CmpOk X .Eq (bEqZ false) := ⟨_, (op_eq.or (op_eqD hu)).or (op_eqLen hu), fun G M H x y xv yv Q R m rx ry h k => by
  rcases h with h | ⟨xs, ys, h1, h2, h3, q⟩
  · exact .inl (bEq_ok G M H x y xv yv Q R m rx ry h k)
  · refine lsAt m rx h1 fun a ws ea p t => lsAt m ry h2 fun c us ec p2 t2 => ?_
    exact .inr ⟨a, c, ws, us, ea, ec, p, p2, by rw [← t.len, ← t2.len]; exact h3, k _ _ (.here m (.bl _) q)⟩⟩
theorem c_neZ (hu : X.A.units + 64 < cLine) : CmpOk X .NotEq (bEqZ true) := ⟨_, (op_ne.or (op_neD hu)).or (op_neLen hu), fun G M H x y xv yv Q R m rx ry h k => by
  rcases h with h | ⟨xs, ys, h1, h2, h3, q⟩
  · exact .inl (bNe_ok G M H x y xv yv Q R m rx ry h k)
  · refine lsAt m rx h1 fun a ws ea p t => lsAt m ry h2 fun c us ec p2 t2 => ?_
    exact .inr ⟨a, c, ws, us, ea, ec, p, p2, by rw [← t.len, ← t2.len]; exact h3, k _ _ (.here m (.bl _) q)⟩⟩
end
theorem i_eqzl {b : Bool} {xs ys : List D} {M : Mem} {Q : DK} (hl : xs.length ≠ ys.length) (h : Q (.bl b) M) : bEqZ b (.lst xs) (.lst ys) M Q := .inr ⟨xs, ys, rfl, rfl, hl, h⟩
theorem i_eqz0 {b : Bool} {x y : D} {M : Mem} {Q : DK} (h : bEq b x y M Q) : bEqZ b x y M Q := .inl h
theorem i_iaddt {xs ys : List Int} {M : Mem} {Q : DK} (hz : xs.length + ys.length ≤ sizeLine) (h : Q (tI (xs ++ ys)) M) : bIAddT (tI xs) (tI ys) M Q := ⟨_, _, rfl, rfl, by simpa using hz, by rw [← List.map_append]; exact h⟩
end HA
/-! A38: defs with defaults, called with all arguments written -/
namespace HA
open PySem PySem.Spec L2
structure CalX (P : Program) (w : World) (K : PySem.W.Frag) (mg : Str → Option Value) (base : Heap) (k : Nat) (x : Str) (ps : List Str) (n : Nat) (ks : List Str) (pm : List Nat) (sp : ASp) : Prop where
  ex : ∃ f fd, PySem.W.keepIn K (.ref f) = true ∧ mg x = some (.ref f) ∧ FA P w K mg base k f fd ps sp ∧ ∀ (s : Shared) (us ws : List Value), K.In s.heap → us.length = n → ws.length = ks.length → BindsTo s fd ⟨us, ks.zip ws⟩ (ps.zip (pick pm (us ++ ws)))
section
variable {X : Cx} {B : Hp} {W : WX} {k n : Nat} {f C : Addr} {fd : FuncData} {ps ks : List Str} {sp : ASp} {pm : List Nat} {x m : Str} {p pos apos : Pos} {e o : Expr} {es : List Expr} {kws : List Keyword} {ta : AE} {tas tks : AA}
theorem run_faX {pins : List (Addr × Obj)} {s : Shared} {st : L2.St} {H : Hp} {us ws : List Value} {vs zs : List V} {G : Hp} {σ : AS} {M : Mem} {Q : DK} {E : AXs} {ds es' : List D} {R : VK} (F : FA X.prog X.w X.K X.mg X.base k f fd ps sp) (hr : Room k X.A) (hg : X.A.guards = some []) (tk : Takes X W)
    (hb : ∀ (s : Shared) (us ws : List Value), X.K.In s.heap → us.length = n → ws.length = ks.length → BindsTo s fd ⟨us, ks.zip ws⟩ (ps.zip (pick pm (us ++ ws)))) (I : Inv X pins st H s) (ss : SS X.K B G σ M st H) (r : Vals vs us) (rz : Vals zs ws) (q1 : RpA X.K G ds vs) (q2 : RpA X.K G es' zs) (l1 : ds.length = n) (l2 : es'.length = ks.length) (h : sp (pick pm (ds ++ es')) M Q (E σ))
    (kq : ∀ v H', Kv X.K G Q v H' → R v H') (kx : ∀ c d s' H', Wx X.K B E c d s' H' → W c d s' H') : wpAny (model X.prog X.w) X.A (call (.ref f) us (ks.zip ws)) (EP X pins st R) X.xe s := (by exact HA.Wq.get : @HA.Wq (wpAny (model X.prog X.w) X.A (call (.ref f) us (ks.zip ws)) (EP X pins st R) X.xe s) (by
  have b : BindsTo s fd ⟨us, ks.zip ws⟩ (ps.zip (pick pm (us ++ ws))) := (hb s us ws I.kIn (by rw [← r.length, ← q1.len]; exact l1) (by rw [← rz.length, ← q2.len]; exact l2))
  refine wpAny_call (codeAny_mono (F.run X.A X.stack s H _ _ (pick pm (vs ++ zs)) (pick pm (ds ++ es')) G M Q (E σ) hr hg I.env0 b (pick_vals (r.append rz) pm) ss.mem (pick_rp (q1.app q2) pm) h) fun r s' hq => ?_)
  cases r with
  | error z => exact tk z s' (XE.of_call I (fun cls d H' hk => kx _ _ _ _ (Wx.of ss hk)) hq)
  | ok fl =>
    cases fl with
    | ret u =>
      obtain ⟨v, H', I', rv, q⟩ := I.after hq
      exact ⟨v, H', I', rv, kq v H' q⟩
    | next => exact False.elim hq
    | brk => exact False.elim hq
    | cont => exact False.elim hq))

theorem qe_callX {j : Nat} (c : CalX X.prog X.w X.K X.mg X.base k x ps n ks pm sp) (hr : Room k X.A) (hg : X.A.guards = some []) (tk : Takes X W) (ha : QA X B W (e :: es) tas) (hk : QK X B W kws tks) (hgl : Gl X x := by rfl) (hj : ks.length = j := by rfl)
    (hks : (backToKw pos (keywordEach kws X.env)).filterMap (·.1) = ks := by rfl) (hall : (backToKw pos (keywordEach kws X.env)).all (·.1.isSome) = true := by rfl)
    (hdb : (x == ("__debug__" : Str)) = false := by decide) (he : starEach (e :: es) X.env = (false, eval e X.env) :: starEach es X.env := by rfl)
    (hpl : ((backTo pos (starEach (e :: es) X.env)).any (·.1) || (backToKw pos (keywordEach kws X.env)).any (·.1.isNone)) = false := by rfl) : QE X B W (.Call (.Name x p) (e :: es) kws pos) (aCall sp n j pm tas tks) := by
  obtain ⟨f, fd, hk0, hm, F, bn⟩ := c.ex
  subst hj
  refine ⟨fun pins s st' H R I ⟨G, σ, M, Q, E, ss, h, kq, kx⟩ => ?_⟩
  refine wpAny_Call_Name_kw (ld_glob I hgl hm ?_ hdb)
  refine PySem.W.callWith_KW (h₀ := X.base) I.ok.mod.kin hk0 hall (thn (ha.run pos pins s st' H (fun vs H1 => ∃ ds M1 G1, Same G G1 ∧ SM X.K G1 M1 H1 ∧ RpA X.K G1 ds vs ∧ _) I ⟨G, σ, M, _, E, ss, h, fun vs H1 ds M1 G1 e1 m1 r1 q1 => ⟨ds, M1, G1, e1, m1, r1, q1⟩, kx⟩) fun us s1 ⟨vs, H1, I1, r, ds, M1, G1, e1, m1, r1, q1⟩ => ?_) hpl he
  refine thn (hk.run pos pins s1 st' H1 (fun vs H2 => ∃ es' M2 G2, Same G1 G2 ∧ SM X.K G2 M2 H2 ∧ RpA X.K G2 es' vs ∧ _) I1 ⟨G1, σ, M1, _, E, ss.with e1 m1, q1, fun vs H2 ds M2 G2 e2 m2 r2 q2 => ⟨ds, M2, G2, e2, m2, r2, q2⟩, kx⟩) fun ws s2 ⟨zs, H2, I2, rz, es', M2, G2, e2, m2, r2, l1, l2, q2⟩ => ⟨I2.kIn, ?_⟩
  rw [hks]
  exact run_faX F hr hg tk bn I2 (ss.with (e1.trans e2) m2) r rz (r1.up e2) r2 l1 l2 q2 (fun v H' kv => kq v H' (kv.lift (e1.trans e2))) kx

end
section
variable {P : Program} {w : World} {K : PySem.W.Frag} {mg : Str → Option Value} {base : Heap} {x qual : Str} {st : Stmt} {f : Addr} {fd : FuncData} {N ps : List Str} {k : Nat} {sp sp' : ASp} {t : ASt}
variable {dvs : List V} {kws : List (Str × V)}
theorem fa_ghX (F : FunD K x qual (defArgs st) (defBody st) (defScope st) dvs kws f fd) (S : FnScope N ps (defScope st)) (len : ∀ ds M Q E, sp ds M Q E → ds.length = ps.length) (hb : ∀ cdv, fd.code = cdv → DefC P w K mg base N qual st f k cdv t)
    (h : ∀ ds M Q E, sp ds M Q E → ∃ D : AEn, t D (startA N ds) M ∧ (∀ σ M', D.nx σ M' → ∃ d' M2, Gh M2 .non M' d' ∧ Q d' M2) ∧ (∀ d M', D.rt d M' → ∃ d' M2, Gh M2 d M' d' ∧ Q d' M2) ∧ (∀ σ M', ¬ D.bk σ M') ∧ (∀ σ M', ¬ D.ct σ M') ∧ ∀ σ C fs M', D.xx σ C fs M' → ∃ M2, MLe M2 M' ∧ E C fs M2) : FA P w K mg base (k + 1) f fd ps sp := (by exact HA.Wq.get : @HA.Wq (FA P w K mg base (k + 1) f fd ps sp) (by
  obtain ⟨oc, od, dV, kV, doc, pm, an, cdv, ct, osl, rfl, lk, hcd, _, _⟩ := F.ex
  refine ⟨len, fun A outer s H args us vs ds G M Q E hr hg e0 hbd r m rp hs => ?_⟩
  have hl : vs.length = ps.length := by rw [← rp.len]; exact len _ _ _ _ hs
  have inK : K.In s.heap := e0.mod.kin.keeps fun b o z => (e0.bs b o z).1
  have nol : s.heap.NoLimit := e0.mod.nolimit.keeps fun b o z => (e0.bs b o z).1
  have kinds : ∀ y ∈ ps.zip us, (defScope st).names.lookup y.1 = some .local ∨ ((defScope st).names.lookup y.1 = some .cell ∧ ((cellsFrom (s.heap.objs.size + 1) (defScope st).names []).lookup y.1).isSome = true) := by
    rintro ⟨y, v⟩ hy
    exact (S.par y (List.of_mem_zip hy).1).imp id fun z => ⟨z, PySem.W.cellsFrom_some _ _ _ (.inl z)⟩
  refine codeAny_call_function hr.depth (inK _ _ lk) rfl S.co S.gen rfl (PySem.W.codeRec_of inK hcd) (hbd _ _ _ _ (wpAny_newFunctionEnv_cells S.kind kinds fun env ee s1 xx => ?_))
  subst ee
  refine ⟨nol.keeps xx.toInCall.keep, codeAny_func ?_⟩
  have I := inv_start (CX := L2.CX P w) (P := P) (w := w) (K := K) (mg := mg) (base := base) (cd := cdv) (E := Kx K G E) S hr.hd e0 hl r xx
  have tk := takes_of (X := BX P w K mg base N qual st f cdv A outer s H (Kx K G E)) (E := Kx K G E) rfl rfl rfl rfl
  have qb := hb cdv rfl A outer s H (Kx K G E) G _ (hr.deeper _) hg tk (passes_of rfl)
  have e0l : (startA N ds).length = (L2.start N vs).length := by simp [startA, L2.start, rp.len]
  have ss : SS K G G (startA N ds) M (L2.start N vs) H := ⟨Same.refl G, m, e0l, fun i d hd => by
    unfold startA at hd
    unfold L2.start
    by_cases hi : i < ds.length
    · rw [List.getElem?_append_left (by simpa using hi), List.getElem?_map] at hd
      cases z : ds[i]? with
      | none => rw [z] at hd; cases hd
      | some y =>
        rw [z] at hd
        cases hd
        obtain ⟨v, h1, h2⟩ := rp.get z
        exact ⟨v, by rw [List.getElem?_append_left (by simp; rw [← rp.len]; exact hi), List.getElem?_map, h1]; rfl, h2⟩
    · rw [List.getElem?_append_right (by simpa using hi), List.getElem?_replicate] at hd
      split at hd <;> cases hd⟩
  have fin : ∀ {σ' : L2.St} {H' : Hp} {s' : Shared} {v : V} {u : Value}, Inv (BX P w K mg base N qual st f cdv A outer s H (Kx K G E)) [] σ' H' s' → RelV v u → Kv K G Q v H' → CE outer P w H s (Kv K G Q) u s' := fun J rv q => ⟨_, _, J.os, J.bare, J.base, J.hok, rv, q⟩
  obtain ⟨D, hD, kn, kr, kb, kc, kx⟩ := h ds M Q E hs
  refine wpAny_mono (qb.run [] s1 (L2.start N vs) H { nx := fun _ H' => Kv K G Q .non H', rt := Kv K G Q } I ⟨G, _, M, D, ss, hD, fun s' H' σ' M' G' e' ss' q => Kv.gh ⟨.non, M', G', e', ss'.mem, .non, kn σ' M' q⟩, fun v H' ⟨d, M', G', e, m, r, q⟩ => Kv.gh ⟨d, M', G', e, m, r, kr d M' q⟩, fun _ _ σ' M' _ _ _ z => kb σ' M' z, fun _ _ σ' M' _ _ _ z => kc σ' M' z, fun c d s' H' ⟨C, fs, a, vs, σ, M', G', e1, e2, s5, h1, h2, q⟩ => Kx.drop (M := M') ⟨C, fs, a, vs, M', G', e1, e2, s5.base, s5.mem, h1, h2, kx σ C fs M' q⟩⟩)
    (fun fl s' hs' => ?_) fun e s' hs' => hs'
  cases fl with
  | ret u => obtain ⟨v, σ', H', J, rv, q⟩ := hs'; exact fin J rv q
  | next => obtain ⟨σ', H', J, q⟩ := hs'; exact fin (v := .non) (u := .none) J rfl q
  | brk => obtain ⟨_, _, _, z⟩ := hs'; exact z.elim
  | cont => obtain ⟨_, _, _, z⟩ := hs'; exact z.elim))


theorem fa_pureX (F : FunD K x qual (defArgs st) (defBody st) (defScope st) dvs kws f fd) (S : FnScope N ps (defScope st)) (len : ∀ ds M Q E, sp ds M Q E → ds.length = ps.length) (hb : DefD P w K mg base N qual st f k t)
    (h : ∀ ds M Q E, sp ds M Q E → t (pureE M Q E) (startA N ds) M) : FA P w K mg base (k + 1) f fd ps sp :=
  fa_ghX F S len (fun cdv _ => hb cdv) fun ds M Q E q => ⟨_, h ds M Q E q, fun σ M' z => ⟨_, M, .drop z.1 _, z.2⟩, fun d M' z => fzD_gh z, fun _ _ z => z, fun _ _ z => z, fun σ C fs M' z => ⟨M, z⟩⟩
theorem bind2 {a b : Str} {dv : V} {params : Arguments} {body : List Stmt} {scope : Scope} (F : FunD K x qual params body scope [dv] [] f fd)
    (h : ∀ (T : Addr) (kV doc pm : Value) (an : Option Addr) (cdv ct : Value) (us its : List Value), us.length = 2 → its.length = [dv].length →
      ∃ k, bindArgs (PySem.W.fnOf x qual params body scope (.ref T) kV doc pm an cdv ct) ⟨us, []⟩ = seqItems? (.ref T) >>= k ∧ k (some its.toArray) = pure ([a, b].zip (us ++ its.drop 1))) :
    ∀ (s : Shared) (us ws : List Value), K.In s.heap → us.length = 2 → ws.length = ([] : List Str).length → BindsTo s fd ⟨us, ([] : List Str).zip ws⟩ ([a, b].zip (pick [0, 1] (us ++ ws))) := fun s us ws X h1 h2 => by
  obtain ⟨ds, hv, hb⟩ := FunD.binds1 (ps := [a, b]) F 2 1 (by simp) (by simp) h
  obtain rfl : ds = [] := by cases hv; rfl
  match us, ws, h1, h2 with
  | [u, v], [], _, _ => exact hb s [u, v] X rfl
end
end HA
/-! A39: defs with defaults, called with keywords, or with arguments left out -/
namespace HA
open PySem PySem.Spec L2
theorem rpa_app {K : PySem.W.Frag} {G : Hp} : ∀ {xs ys : List D} {vs us : List V}, RpA K G xs vs → RpA K G ys us → RpA K G (xs ++ ys) (vs ++ us)
  | _, _, _, _, .nil, h => h
  | _, _, _, _, .cons a b, h => .cons a (rpa_app b h)
/-- dd: what stands for the arguments left out -/
structure CalY (P : Program) (w : World) (K : PySem.W.Frag) (mg : Str → Option Value) (base : Heap) (k : Nat) (x : Str) (ps : List Str) (n : Nat) (ks : List Str) (dd : List D) (pm : List Nat) (sp : ASp) : Prop where
  ex : ∃ f fd, PySem.W.keepIn K (.ref f) = true ∧ mg x = some (.ref f) ∧ FA P w K mg base k f fd ps sp ∧ ∃ (dvs : List V) (its : List Value), Vals dvs its ∧ (∀ G, RpA K G dd dvs) ∧ ∀ (s : Shared) (us ws : List Value), K.In s.heap → us.length = n → ws.length = ks.length → BindsTo s fd ⟨us, ks.zip ws⟩ (ps.zip (pick pm (us ++ (ws ++ its))))
@[simp] def aCallD (sp : ASp) (n j : Nat) (dd : List D) (pm : List Nat) (ta tk : AA) : AE := fun σ M Q E => ta σ M (fun us M1 => tk σ M1 (fun ws M2 => us.length = n ∧ ws.length = j ∧ sp (pick pm (us ++ (ws ++ dd))) M2 Q (E σ)) E) E
section
variable {X : Cx} {B : Hp} {W : WX} {k n : Nat} {f C : Addr} {fd : FuncData} {ps ks : List Str} {sp : ASp} {pm : List Nat} {x m : Str} {p pos apos : Pos} {e o : Expr} {es : List Expr} {kws : List Keyword} {ta : AE} {tas tks : AA}
theorem run_faY {pins : List (Addr × Obj)} {s : Shared} {st : L2.St} {H : Hp} {us ws : List Value} {vs zs : List V} {G : Hp} {σ : AS} {M : Mem} {Q : DK} {E : AXs} {ds es' : List D} {R : VK} (F : FA X.prog X.w X.K X.mg X.base k f fd ps sp) (hr : Room k X.A) (hg : X.A.guards = some []) (tk : Takes X W)
    {kz : List (Str × Value)} (b : BindsTo s fd ⟨us, kz⟩ (ps.zip (pick pm (us ++ ws)))) (I : Inv X pins st H s) (ss : SS X.K B G σ M st H) (r : Vals vs us) (rz : Vals zs ws) (q1 : RpA X.K G ds vs) (q2 : RpA X.K G es' zs) (h : sp (pick pm (ds ++ es')) M Q (E σ))
    (kq : ∀ v H', Kv X.K G Q v H' → R v H') (kx : ∀ c d s' H', Wx X.K B E c d s' H' → W c d s' H') : wpAny (model X.prog X.w) X.A (call (.ref f) us kz) (EP X pins st R) X.xe s := (by exact HA.Wq.get : @HA.Wq (wpAny (model X.prog X.w) X.A (call (.ref f) us kz) (EP X pins st R) X.xe s) (by
  refine wpAny_call (codeAny_mono (F.run X.A X.stack s H _ _ (pick pm (vs ++ zs)) (pick pm (ds ++ es')) G M Q (E σ) hr hg I.env0 b (pick_vals (r.append rz) pm) ss.mem (pick_rp (q1.app q2) pm) h) fun r s' hq => ?_)
  cases r with
  | error z => exact tk z s' (XE.of_call I (fun cls d H' hk => kx _ _ _ _ (Wx.of ss hk)) hq)
  | ok fl =>
    cases fl with
    | ret u =>
      obtain ⟨v, H', I', rv, q⟩ := I.after hq
      exact ⟨v, H', I', rv, kq v H' q⟩
    | next => exact False.elim hq
    | brk => exact False.elim hq
    | cont => exact False.elim hq))

theorem qe_callY {dd : List D} {j : Nat} (c : CalY X.prog X.w X.K X.mg X.base k x ps n ks dd pm sp) (hr : Room k X.A) (hg : X.A.guards = some []) (tk : Takes X W) (ha : QA X B W (e :: es) tas) (hk : QK X B W kws tks) (hgl : Gl X x := by rfl) (hj : ks.length = j := by rfl)
    (hks : (backToKw pos (keywordEach kws X.env)).filterMap (·.1) = ks := by rfl) (hall : (backToKw pos (keywordEach kws X.env)).all (·.1.isSome) = true := by rfl)
    (hdb : (x == ("__debug__" : Str)) = false := by decide) (he : starEach (e :: es) X.env = (false, eval e X.env) :: starEach es X.env := by rfl)
    (hpl : ((backTo pos (starEach (e :: es) X.env)).any (·.1) || (backToKw pos (keywordEach kws X.env)).any (·.1.isNone)) = false := by rfl) : QE X B W (.Call (.Name x p) (e :: es) kws pos) (aCallD sp n j dd pm tas tks) := by
  obtain ⟨f, fd, hk0, hm, F, dvs, its, vd, rd, bn⟩ := c.ex
  subst hj
  refine ⟨fun pins s st' H R I ⟨G, σ, M, Q, E, ss, h, kq, kx⟩ => ?_⟩
  refine wpAny_Call_Name_kw (ld_glob I hgl hm ?_ hdb)
  refine PySem.W.callWith_KW (h₀ := X.base) I.ok.mod.kin hk0 hall (thn (ha.run pos pins s st' H (fun vs H1 => ∃ ds M1 G1, Same G G1 ∧ SM X.K G1 M1 H1 ∧ RpA X.K G1 ds vs ∧ _) I ⟨G, σ, M, _, E, ss, h, fun vs H1 ds M1 G1 e1 m1 r1 q1 => ⟨ds, M1, G1, e1, m1, r1, q1⟩, kx⟩) fun us s1 ⟨vs, H1, I1, r, ds, M1, G1, e1, m1, r1, q1⟩ => ?_) hpl he
  refine thn (hk.run pos pins s1 st' H1 (fun vs H2 => ∃ es' M2 G2, Same G1 G2 ∧ SM X.K G2 M2 H2 ∧ RpA X.K G2 es' vs ∧ _) I1 ⟨G1, σ, M1, _, E, ss.with e1 m1, q1, fun vs H2 ds M2 G2 e2 m2 r2 q2 => ⟨ds, M2, G2, e2, m2, r2, q2⟩, kx⟩) fun ws s2 ⟨zs, H2, I2, rz, es', M2, G2, e2, m2, r2, l1, l2, q2⟩ => ⟨I2.kIn, ?_⟩
  rw [hks]
  exact run_faY F hr hg tk (bn _ us ws I2.kIn (by rw [← r.length, ← r1.len]; exact l1) (by rw [← rz.length, ← r2.len]; exact l2)) I2 (ss.with (e1.trans e2) m2) r (rz.append vd) (r1.up e2) (rpa_app r2 (rd _)) q2 (fun v H' kv => kq v H' (kv.lift (e1.trans e2))) kx

theorem qe_callY0 {dd : List D} {j : Nat} (c : CalY X.prog X.w X.K X.mg X.base k x ps 0 ks dd pm sp) (hr : Room k X.A) (hg : X.A.guards = some []) (tk : Takes X W) (hk : QK X B W kws tks) (hgl : Gl X x := by rfl) (hj : ks.length = j := by rfl)
    (hks : (backToKw pos (keywordEach kws X.env)).filterMap (·.1) = ks := by rfl) (hall : (backToKw pos (keywordEach kws X.env)).all (·.1.isSome) = true := by rfl)
    (hdb : (x == ("__debug__" : Str)) = false := by decide)
    (hpl : ((backTo pos (starEach [] X.env)).any (·.1) || (backToKw pos (keywordEach kws X.env)).any (·.1.isNone)) = false := by rfl) : QE X B W (.Call (.Name x p) [] kws pos) (aCallD sp 0 j dd pm aNil tks) := by
  obtain ⟨f, fd, hk0, hm, F, dvs, its, vd, rd, bn⟩ := c.ex
  subst hj
  refine ⟨fun pins s st' H R I ⟨G, σ, M, Q, E, ss, h, kq, kx⟩ => ?_⟩
  refine wpAny_Call_Name_kw (ld_glob I hgl hm ?_ hdb)
  refine PySem.W.callWith_KW0 (h₀ := X.base) I.ok.mod.kin hk0 hall ?_ hpl
  refine thn (hk.run pos pins s st' H (fun vs H2 => ∃ es' M2 G2, Same G G2 ∧ SM X.K G2 M2 H2 ∧ RpA X.K G2 es' vs ∧ _) I ⟨G, σ, M, _, E, ss, h, fun vs H2 ds M2 G2 e2 m2 r2 q2 => ⟨ds, M2, G2, e2, m2, r2, q2⟩, kx⟩) fun ws s2 ⟨zs, H2, I2, rz, es', M2, G2, e2, m2, r2, l1, l2, q2⟩ => ⟨I2.kIn, ?_⟩
  rw [hks]
  exact run_faY (us := []) (vs := []) (ds := []) F hr hg tk (bn _ [] ws I2.kIn rfl (by rw [← rz.length, ← r2.len]; exact l2)) I2 (ss.with e2 m2) .nil (rz.append vd) .nil (rpa_app r2 (rd _)) q2 (fun v H' kv => kq v H' (kv.lift e2)) kx
end
/-- the binding of a def with defaults, dvs: those behind the first j fill up -/
theorem bindY {K : PySem.W.Frag} {x qual : Str} {params : Arguments} {body : List Stmt} {scope : Scope} {f : Addr} {fd : FuncData} {dvs : List V} {ps ks : List Str} {pm : List Nat} {n : Nat} (j : Nat) (F : FunD K x qual params body scope dvs [] f fd) (hd : dvs ≠ [])
    (h : ∀ (T : Addr) (kV doc pmv : Value) (an : Option Addr) (cdv ct : Value) (us ws its : List Value), us.length = n → ws.length = ks.length → its.length = dvs.length →
      ∃ k, bindArgs (PySem.W.fnOf x qual params body scope (.ref T) kV doc pmv an cdv ct) ⟨us, ks.zip ws⟩ = seqItems? (.ref T) >>= k ∧ k (some its.toArray) = pure (ps.zip (pick pm (us ++ (ws ++ its.drop j))))) :
    ∃ its : List Value, Vals (dvs.drop j) its ∧ ∀ (s : Shared) (us ws : List Value), K.In s.heap → us.length = n → ws.length = ks.length → BindsTo s fd ⟨us, ks.zip ws⟩ (ps.zip (pick pm (us ++ (ws ++ its)))) := (by exact HA.Wq.get : @HA.Wq (∃ its : List Value, Vals (dvs.drop j) its ∧ ∀ (s : Shared) (us ws : List Value), K.In s.heap → us.length = n → ws.length = ks.length → BindsTo s fd ⟨us, ks.zip ws⟩ (ps.zip (pick pm (us ++ (ws ++ its))))) (by
  obtain ⟨oc, od, dV, kV, doc, pmv, an, cdv, ct, osl, rfl, lk, hcd, hD, hK⟩ := F.ex
  rcases hD with ⟨e, _⟩ | ⟨_, T, o, its, m, rfl, lT, oT, rT⟩
  · exact absurd e hd
  · refine ⟨its.drop j, rT.drop j, fun s us ws X h1 h2 => ?_⟩
    obtain ⟨k, e1, e2⟩ := h T kV doc pmv an cdv ct us ws its h1 h2 rT.length.symm
    refine BindsTo.of_looks fun M => ?_
    rw [e1]
    exact looks_items X lT oT (.of_pure e2)))
/-- a def with defaults, as the module holds it -/
structure CalD (P : Program) (w : World) (K : PySem.W.Frag) (mg : Str → Option Value) (base : Heap) (k : Nat) (x : Str) (st : Stmt) (dvs : List V) (ps : List Str) (sp : ASp) : Prop where
  ex : ∃ f fd, FunD K x x (defArgs st) (defBody st) (defScope st) dvs [] f fd ∧ mg x = some (.ref f) ∧ FA P w K mg base k f fd ps sp
/-- how a call binds: n by position, ks by keywords, the defaults behind the first j fill up -/
def BdZ (x : Str) (st : Stmt) (nd : Nat) (ps : List Str) (n : Nat) (ks : List Str) (j : Nat) (pm : List Nat) : Prop := ∀ (T : Addr) (kV doc pmv : Value) (an : Option Addr) (cdv ct : Value) (us ws its : List Value), us.length = n → ws.length = ks.length → its.length = nd →
  ∃ k, bindArgs (PySem.W.fnOf x x (defArgs st) (defBody st) (defScope st) (.ref T) kV doc pmv an cdv ct) ⟨us, ks.zip ws⟩ = seqItems? (.ref T) >>= k ∧ k (some its.toArray) = pure (ps.zip (pick pm (us ++ (ws ++ its.drop j))))
theorem CalD.y {P : Program} {w : World} {K : PySem.W.Frag} {mg : Str → Option Value} {base : Heap} {k n j : Nat} {x : Str} {st : Stmt} {dvs : List V} {ps ks : List Str} {dd : List D} {pm : List Nat} {sp : ASp} (c : CalD P w K mg base k x st dvs ps sp) (hd : dvs ≠ []) (b : BdZ x st dvs.length ps n ks j pm) (rd : ∀ G, RpA K G dd (dvs.drop j)) : CalY P w K mg base k x ps n ks dd pm sp := by
  obtain ⟨f, fd, F, hm, A⟩ := c.ex
  obtain ⟨its, hv, hb⟩ := bindY j F hd b
  exact ⟨f, fd, F.kp, hm, A, _, its, hv, rd, hb⟩
theorem i_callD {M : Mem} {Q : DK} {E : AXs} {σ : AS} {tas tk : AA} {sp : ASp} {n j : Nat} {dd : List D} {pm : List Nat} (h : tas σ M (fun us M1 => tk σ M1 (fun ws M2 => us.length = n ∧ ws.length = j ∧ sp (pick pm (us ++ (ws ++ dd))) M2 Q (E σ)) E) E) : aCallD sp n j dd pm tas tk σ M Q E := h
theorem i_clD {us ws dd ds : List D} {n j : Nat} {pm : List Nat} {sp : ASp} {M : Mem} {Q : DK} {X : AX} (h1 : us.length = n) (h2 : ws.length = j) (e : pick pm (us ++ (ws ++ dd)) = ds) (h : sp ds M Q X) : us.length = n ∧ ws.length = j ∧ sp (pick pm (us ++ (ws ++ dd))) M Q X := ⟨h1, h2, by rw [e]; exact h⟩
end HA
/-! A40: len(set(xs)) of ints that are all unlike; ranges as values; ranges of great numbers. -/
namespace HA
open PySem PySem.Spec PyProof.Rows L2
section
variable {X : Cx} {B : Hp} {W : WX} {a b c e o tg : Expr} {ta tb te : AE} {tas : AA} {pos p p2 p3 : Pos}
/-- len(set(xs)) -/
def aLenSet (ta : AE) : AE := fun σ M Q E => ta σ M (fun x M1 => ∃ ns : List Int, LsAt M1 x (ns.map D.int) ∧ ns.Nodup ∧ ns.length ≤ 4000 ∧ Q (.int ns.length) M1) E
theorem qe_lenSet (hg : Gl X "len") (hm : X.mg "len" = none) (hg2 : Gl X "set") (hm2 : X.mg "set" = none) (ha : QE X B W a ta) (hc : X.calm = true := by rfl)
    (na : starEach [a] X.env = (false, eval a X.env) :: starEach [] X.env := by rfl) : QE X B W (.Call (.Name "len" p) [.Call (.Name "set" p2) [a] [] p3] [] pos) (aLenSet ta) := ⟨fun pins s sc H R I ⟨G, σ, M, Q, E, ss, h, k, kx⟩ => by
  refine Call_ (ld_blt I hg hm boot_len ?_)
  refine callWith_builtin1 (args_cons ?_ rfl) rfl rfl
  refine Call_ (ld_blt I hg2 hm2 boot_set ?_)
  refine callWith_type1 (args_cons (thn (ha.run pins s sc H (Kv X.K G fun x M1 => ∃ ns : List Int, LsAt M1 x (ns.map D.int) ∧ ns.Nodup ∧ ns.length ≤ 4000 ∧ Q (.int ns.length) M1) I ⟨G, σ, M, _, E, ss, h, fun v H' kv => kv, kx⟩) fun v s1 ⟨x, H1, I1, r1, d, M1, G1, e1, m1, rd, q⟩ => args_nil ?_) na) na rfl
  obtain ⟨ns, h1, hnd, hl, q1⟩ := q
  refine lsAt m1 rd h1 fun l ws e pl t => ?_
  have ew := t.of_ints
  subst ew
  subst e
  cases r1
  obtain ⟨its, r, pl, hz⟩ := I1.list pl
  have hlen : its.toArray.size = ns.length := by rw [List.size_toArray, ← r.length, List.length_map]
  refine call_set_list (I1.ok.hd hc) pl.isList (by simpa using RZ.intsAre_vals r) (by rw [hlen]; unfold scanBound; omega) fun h' tk hS hk => ?_
  refine args_nil ?_
  rw [hlen, RZ.firstMet_nodup hnd ns.length (Nat.le_refl _), List.take_length] at hS
  obtain ⟨o, es, ep, t, ho, hex, hd, _, _, _, hf, hn⟩ := hS
  have I2 : Inv X pins sc H1 { s1 with heap := h', toks := tk } := I1.kept fun b o e => hk b o (Heap.lt_size e) e
  exact call_len_set ho hex hd hf (by rw [hn] <;> omega) ⟨.int ns.length, H1, I2.tok _, ⟨_, by rw [hn]⟩, k _ _ ⟨.int ns.length, M1, G1, e1, m1, .int _, q1⟩⟩⟩
/-- range(a, b) as a value -/
def cRng : AC := fun xs M Q => match xs with
  | [.int i, .int j] => ∀ p, M p = none → Q (.ref p) (mset M p (.rng i j))
  | _ => False
theorem ct_range : CallT X "range" cRng := ⟨_, cr_range2, fun G M H xs vs Q R m r h k => by
  unfold cRng at h
  split at h
  · obtain ⟨v, w, rfl, ra, rb⟩ := rpa2 r
    cases ra; cases rb
    exact ⟨_, _, rfl, fun p hp => k _ _ ⟨_, _, G, .refl _, m.new hp (show COk _ _ _ _ (.rng _ _) from upd_same), .ref _, h p (m.free hp).2⟩⟩
  · exact h.elim⟩
theorem bT_range : bootBuiltins "range" = some (.type "range") := by decide +kernel
theorem small_big {a b : Int} (ha : -(2 ^ 63) ≤ a) (ha' : a < 2 ^ 63) (hb : -(2 ^ 63) ≤ b) (hb' : b < 2 ^ 63) (h : b - a < 2 ^ 63) : Builtin.Range.small a b 1 = true := (by exact HA.Wq.get : @HA.Wq (Builtin.Range.small a b 1 = true) (by
  unfold Builtin.Range.small
  rw [rangeSize_one]
  simp only [Builtin.Range.rangeFitsLong, Bool.and_eq_true, Bool.or_eq_true, decide_eq_true_eq, beq_iff_eq, show (1 : Int) > 0 by decide, if_true]
  split <;> omega))
def BigR (i j : Int) : Prop := -(2 ^ 63) ≤ i ∧ i < 2 ^ 63 ∧ -(2 ^ 63) ≤ j ∧ j < 2 ^ 63 ∧ j - i < 2 ^ 63
theorem BigR.mk {i j : Int} (h0 : 0 ≤ i) (h1 : i < 9223372036854775808) (h2 : 0 ≤ j) (h3 : j < 9223372036854775808) : BigR i j := by unfold BigR; omega
theorem range_itB {pins : List (Addr × Obj)} {σ : L2.St} {H : Hp} {s : Shared} {R : It → Hp → Prop} {E : Value → Shared → Prop} {r : Addr} {lo hi : Int} {t u v : Tok} (I : Inv X pins σ H s) (hr : IsRange s.heap r lo hi 1 t u v) (c : BigR lo hi)
    (q : R (Itr lo (hi - lo).toNat) H) : wpAny (model X.prog X.w) X.A (pyIter (.ref r)) (PIE X pins σ tg R) E s := (by exact HA.Wq.get : @HA.Wq (wpAny (model X.prog X.w) X.A (pyIter (.ref r)) (PIE X pins σ tg R) E s) (by
  obtain ⟨c1, c2, c3, c4, c5⟩ := c
  refine wpAny_pyIter_range hr (small_big c1 c2 c3 c4 c5) ?_
  refine ⟨s.heap.objs.size, [s.heap.objs.size], _, _, H, rfl,
    I.kept (t' := s.toks) fun b o e => Heap.get?_push_of_some _ e, turn_range _ lo (hi - lo).toNat, ?_, fun b hb => ?_, q⟩
  · have e1 : lo + ((0 : Nat) : Int) * 1 = lo := by simp
    have e2 : (((hi - lo).toNat : Nat) : Int) - ((0 : Nat) : Int) = Builtin.Range.rangeSize lo hi 1 := by rw [rangeSize_one]; split <;> omega
    show IsRangeIter _ _ (lo + ((0 : Nat) : Int) * 1) ((((hi - lo).toNat : Nat) : Int) - ((0 : Nat) : Int)) 1
    rw [e1, e2]
    exact Heap.get?_push_size _ rfl
  · have e : b = s.heap.objs.size := by simpa using hb
    subst e
    exact I.fpOk (Nat.le_refl _) (I.hok.fresh (Nat.le_refl _))))
/-- a range object walked -/
def aWalkR (te : AE) : AI := fun σ M Q E => te σ M (fun x M1 => ∃ p i j, x = .ref p ∧ M1 p = some (.rng i j) ∧ BigR i j ∧ Q (rangeD i (j - i).toNat) (fun _ => True) M1) E
theorem qi_rngv (he : QE X B W e te) : QI X B W tg e (aWalkR te) := ⟨fun pins s sc H R I ⟨G, σ, M, Q, E, ss, h, k, kx⟩ => by
  refine thn (he.run pins s sc H (Kv X.K G fun x M1 => ∃ p i j, x = .ref p ∧ M1 p = some (.rng i j) ∧ BigR i j ∧ Q (rangeD i (j - i).toNat) (fun _ => True) M1) I ⟨G, σ, M, _, E, ss, h, fun v H' kv => kv, kx⟩) fun v s1 ⟨x, H1, I1, r1, d, M1, G1, e1, m1, rd, q⟩ => ?_
  obtain ⟨p, i, j, rfl, hp, hb, q⟩ := q
  cases rd
  cases r1
  obtain ⟨t, u, w, hr⟩ := I1.hok p _ ((m1.cell p _ hp).2 : H1 p = some (.rng i j))
  exact range_itB I1 hr hb (k _ H1 _ _ M1 G1 e1 m1 (itok_range i _) q)⟩
/-- range(a, b) walked in place, of numbers up to 2 ** 63 -/
def aRng2B (ta : AA) : AI := fun σ M Q E => ta σ M (fun xs M1 => match xs with
  | [.int i, .int j] => BigR i j ∧ Q (rangeD i (j - i).toNat) (fun _ => True) M1
  | _ => False) E
theorem qi_range2B (hg : Gl X "range") (hm : X.mg "range" = none) (ha : QA X B W [a, b] tas) (hs : starEach [a, b] X.env = [(false, eval a X.env), (false, eval b X.env)] := by rfl) (hs2 : starEach [b] X.env = [(false, eval b X.env)] := by rfl) : QI X B W tg (.Call (.Name "range" p) [a, b] [] pos) (aRng2B tas) := ⟨fun pins s sc H R I ⟨G, σ, M, Q, E, ss, h, k, kx⟩ => by
  refine Call_ (ld_blt I hg hm boot_range (callWith_type1 (thn (ha.run pos pins s sc H (fun vs H1 => ∃ i j : Int, vs = [.int i, .int j] ∧ BigR i j ∧ R (Itr i (j - i).toNat) H1) I ⟨G, σ, M, _, E, ss, h, fun vs H1 xs M1 G1 e1 m1 r1 q => by
      match xs, q with
      | [.int i, .int j], q =>
        obtain ⟨v, w, rfl, ra, rb⟩ := rpa2 r1
        cases ra; cases rb
        exact ⟨i, j, rfl, q.1, k _ H1 _ _ M1 G1 e1 m1 (itok_range i _) q.2⟩, kx⟩) fun us s1 ⟨vs, H1, I1, r1, q1⟩ => ?_) (by rw [hs, hs2]) (by rw [hs2]; rfl)))
  obtain ⟨i, j, rfl, q1, q⟩ := q1
  cases r1 with
  | cons r rr =>
    cases rr with
    | cons r' rr =>
      cases rr
      obtain ⟨t, rfl⟩ := r
      obtain ⟨t', rfl⟩ := r'
      refine call_range_2 ?_
      have I2 : Inv X pins sc H1 { s1 with heap := s1.heap.push { cls := .type "range", data := .fields #[.int i t, .int j t', .int 1 s1.toks] }, toks := s1.toks + 1 } := I1.kept fun b o e => Heap.get?_push_of_some _ e
      exact range_itB I2 (IsRange.new _ _ _ _ _ _ _) q1 q⟩
section
variable {ta' : AA} {σ : AS} {M : Mem} {Q : DK} {E : AXs} {ns : List Int} {i j : Int} {p : Addr}
theorem i_lenSet (h : ta σ M (fun x M1 => ∃ ns : List Int, LsAt M1 x (ns.map D.int) ∧ ns.Nodup ∧ ns.length ≤ 4000 ∧ Q (.int ns.length) M1) E) : aLenSet ta σ M Q E := h
theorem i_rngV (h : ∀ p, M p = none → Q (.ref p) (mset M p (.rng i j))) : cRng [.int i, .int j] M Q := h
def wkRK (Q : List D → (Mem → Prop) → Mem → Prop) : DK := fun x M1 => ∃ p i j, x = .ref p ∧ M1 p = some (.rng i j) ∧ BigR i j ∧ Q (rangeD i (j - i).toNat) (fun _ => True) M1
theorem i_wkR {Q : List D → (Mem → Prop) → Mem → Prop} (h : te σ M (wkRK Q) E) : aWalkR te σ M Q E := h
theorem i_wkRK {Q : List D → (Mem → Prop) → Mem → Prop} (hp : M p = some (.rng i j)) (c : BigR i j) (h : Q (rangeD i (j - i).toNat) (fun _ => True) M) : wkRK Q (.ref p) M := ⟨p, i, j, rfl, hp, c, h⟩
def rngK2B (Q : List D → (Mem → Prop) → Mem → Prop) : List D → Mem → Prop := fun xs M1 => match xs with
  | [.int i, .int j] => BigR i j ∧ Q (rangeD i (j - i).toNat) (fun _ => True) M1
  | _ => False
theorem i_rg2B {Q : List D → (Mem → Prop) → Mem → Prop} (h : ta' σ M (rngK2B Q) E) : aRng2B ta' σ M Q E := h
theorem i_rk2B {Q : List D → (Mem → Prop) → Mem → Prop} (c : BigR i j) (h : Q (rangeD i (j - i).toNat) (fun _ => True) M) : rngK2B Q [.int i, .int j] M := ⟨c, h⟩
end
end
end HA
/-! A41: deals over fifty cells of the script; more steps: in, max. -/
namespace HA
open PySem PySem.Spec L2
def gSrc2 (ti : AE) (md k : Int) : ASt :=
  aSeq (aAsg (aLcF (aWalk (aSlF (aVar 0) (aPart (aVar 1)) (aPart (aOp bAddF (aVar 1) (aC (.int 50)))))) (agName 2) aYes (aCB (c1I absI) (aCons (aVar 2) aNil)) [2]) (agName 3))
    (aSeq (aAsg ti (agName 4))
      (aSeq (aFor (aWalk (aVar 3)) (agName 2) (aAsg (aOp oMod (aCB cInt (aCons (aOp bAddF (aOp bAddF (aOp oMul (aVar 4) (aC (.int 48271))) (aOp oMod (aCB cInt (aCons (aVar 2) aNil)) (aC (.int md)))) (aC (.int k))) aNil)) (aC (.int 2147483647))) (agName 4)))
        (aRet (aLst (aCons (aRev (aLcF (aWalk (aVar 3)) (agName 2) (aTest (aOp oGe (aVar 2) (aOp oPow (aC (.int 10)) (aC (.int 18))))) (aVar 2) [2])) (aCons (aVar 4) aNil))))))
theorem v_src2 (ti : AE) (md k : Int) (hmd : 0 < md) (hti : ∀ ns b cs M Q E, 0 ≤ b → b < 1000 → (∀ i : Int, 0 ≤ i → i < 2147483647 → Q (.int i) M) → ti [some (.frz ns), some (.int b), none, some cs, none] M Q E) :
    ∀ ds M Q E, spSrcT ds M Q E → gSrc2 ti md k (anyE Q E) (startA ["script", "base", "cell", "cells", "blend"] ds) M := (by exact HA.Wq.get : @HA.Wq (∀ ds M Q E, spSrcT ds M Q E → gSrc2 ti md k (anyE Q E) (startA ["script", "base", "cell", "cells", "blend"] ds) M) (by
  intro ds M Q E ⟨ns, b, h, hl, hbd, hb, q⟩
  subst h
  obtain ⟨ms, hcut, hml, hmz⟩ : ∃ ms : List Int, cut (ns.map D.int) (some b) (some (b + 50)) = ms.map D.int ∧ ms.length ≤ 63 ∧ ∀ z ∈ ms, z ∈ ns := by
    refine ⟨(ns.drop b.toNat).take ((b + 50).toNat - b.toNat), ?_, ?_, fun z hz => List.mem_of_mem_drop (List.mem_of_mem_take hz)⟩
    · rw [cut_ij (by omega) (by omega), List.map_take, List.map_drop]
    · rw [List.length_take, List.length_drop]; omega
  unfold gSrc2
  refine ⟨_, rfl, _, rfl, ?_⟩
  refine lcF_fold (xs := cut (ns.map D.int) (some b) (some (b + 50))) (fun _ _ => ?_) (by rw [hcut]; simp; exact sz_le (by omega)) (fun pre acc => ∃ zs : List Int, pre = zs.map D.int ∧ acc = (zs.map absI).map D.int) ⟨[], rfl, rfl⟩ ?_ ?_
  · trivial
  · rintro pre x rest acc M' e ⟨zs, rfl, rfl⟩ hM
    rw [hcut] at e
    obtain ⟨ps, n, rs, e1, e2, rfl, e4⟩ := map_split e
    refine ⟨fun _ => ⟨rfl, zs ++ [n], by simp, by simp⟩, fun z => (by cases z)⟩
  rw [hcut]
  rintro acc ⟨zs, e, rfl⟩
  have e : ms = zs := by
    have := congrArg (List.map fun d => match d with | D.int i => i | _ => 0) e
    simpa [List.map_map, Function.comp_def] using this
  subst e
  refine hti _ _ _ _ _ _ hb.1 hb.2 fun i hi0 hi1 => ?_
  have hcs : ∀ z ∈ ms.map absI, 0 ≤ z ∧ z.natAbs < 2 ^ big := fun z hz => by
    obtain ⟨y, hy, rfl⟩ := List.mem_map.mp hz
    exact ⟨absI_ok.1, by rw [absI_ok.2]; exact hbd y (hmz y hy)⟩
  have hlc : (ms.map absI).length ≤ 63 := by simpa using hml
  generalize ms.map absI = cs at hcs hlc
  refine ⟨_, rfl, ?_⟩
  refine for_fold (xs := cs.map D.int) (fun pre σ M' => M' = M ∧ ∃ (i : Int) (o : Option D), (0 ≤ i ∧ i < 2147483647) ∧ σ = [some (.frz (ns.map D.int)), some (.int b), o, some (.lst (cs.map D.int)), some (.int i)]) ⟨rfl, i, none, ⟨hi0, hi1⟩, rfl⟩ ?_ ?_
  · rintro pre x rest e σ M' ⟨hM, i, o, hi, hσ⟩
    subst hσ
    obtain ⟨ps, n, rs, e1, e2, rfl, e4⟩ := map_split e
    refine ⟨trivial, MulOk.right (by decide) (by decide), hmd, (by show (0 : Int) < 2147483647; decide), hM, _, _, ⟨Int.emod_nonneg _ (by decide), Int.emod_lt_of_pos _ (by decide)⟩, rfl⟩
  · rintro σ M' ⟨hM, i, o, hi, hσ⟩
    subst hσ
    subst hM
    refine ⟨trivial, _, rfl, ?_⟩
    refine lcF_fold (xs := cs.map D.int) (fun _ _ => ?_) (by simp; exact sz_le (by omega)) (fun pre acc => ∃ zs : List Int, acc = zs.map D.int ∧ zs.length ≤ pre.length ∧ ∀ z ∈ zs, z ∈ cs) ⟨[], rfl, by simp, by simp⟩ ?_ ?_
    · trivial
    · rintro pre x rest acc M2 e ⟨zs, rfl, hz1, hz2⟩ hM
      obtain ⟨ps, n, rs, e1, e2, rfl, e4⟩ := map_split e
      refine ⟨pow18, fun _ => ⟨rfl, zs ++ [n], by simp, by simp; omega, fun z hz => ?_⟩, fun _ => ⟨rfl, zs, rfl, by simp; omega, hz2⟩⟩
      rcases List.mem_append.mp hz with hz | hz
      · exact hz2 z hz
      · rw [List.mem_singleton] at hz; subst hz; rw [e1]; simp
    · rintro acc ⟨zs, rfl, hz1, hz2⟩
      refine ⟨_, rfl, fun l hl0 => ⟨sz_le (by simp), fun a ha0 => ?_⟩⟩
      have nal : a ≠ l := fun z => by subst z; rw [mset_same] at ha0; cases ha0
      have ha1 : M' a = none := by rw [mset_ne nal] at ha0; exact ha0
      refine ⟨_, .refl _, q a l i zs.reverse _ nal ha1 hl0 (.new2 ha0 (.new hl0)) mset_same ?_ ⟨?_, fun z hz => hcs z (hz2 z (by simpa using hz))⟩ hi.1 hi.2⟩
      · rw [mset_ne (Ne.symm nal), mset_same, List.map_reverse]
      · simp at hz1 ⊢; omega))

section
variable {M : Mem} {Q : DK} {ns : List Int} {v : Int} {p : Addr}
theorem inD_ints : inV (fv (.int v)) ((ns.map D.int).map fv) = decide (v ∈ ns) := (by exact HA.Wq.get : @HA.Wq (inV (fv (.int v)) ((ns.map D.int).map fv) = decide (v ∈ ns)) (by
  induction ns with
  | nil => rfl
  | cons x r ih =>
    have e : inV (fv (.int v)) (((x :: r).map D.int).map fv) = (decide (x = v) || inV (fv (.int v)) ((r.map D.int).map fv)) := rfl
    rw [e, ih]
    by_cases h : x = v
    · simp [h]
    · have h2 : ¬ v = x := fun y => h y.symm
      simp [h, h2]))
theorem flatD_ints : (ns.map D.int).all flat = true := by
  rw [List.all_eq_true]; intro x hx; obtain ⟨i, _, rfl⟩ := List.mem_map.mp hx; rfl
theorem i_inL (h : Q (.bl (decide (v ∈ ns))) M) : bIn false (.int v) (lI ns) M Q := ⟨rfl, ns.map D.int, .inr rfl, flatD_ints, by rw [inD_ints]; exact h⟩
theorem i_ninL (h : Q (.bl (!decide (v ∈ ns))) M) : bIn true (.int v) (lI ns) M Q := ⟨rfl, ns.map D.int, .inr rfl, flatD_ints, by rw [inD_ints]; exact h⟩
theorem i_inT (h : Q (.bl (decide (v ∈ ns))) M) : bIn false (.int v) (tI ns) M Q := ⟨rfl, ns.map D.int, .inl rfl, flatD_ints, by rw [inD_ints]; exact h⟩
theorem i_ninT (h : Q (.bl (!decide (v ∈ ns))) M) : bIn true (.int v) (tI ns) M Q := ⟨rfl, ns.map D.int, .inl rfl, flatD_ints, by rw [inD_ints]; exact h⟩
theorem i_inR (hp : M p = some (.lst (ns.map .int))) (h : Q (.bl (decide (v ∈ ns))) M) : bIn false (.int v) (.ref p) M Q := ⟨rfl, ns.map D.int, .inr hp, flatD_ints, by rw [inD_ints]; exact h⟩
theorem i_ninR (hp : M p = some (.lst (ns.map .int))) (h : Q (.bl (!decide (v ∈ ns))) M) : bIn true (.int v) (.ref p) M Q := ⟨rfl, ns.map D.int, .inr hp, flatD_ints, by rw [inD_ints]; exact h⟩
end
end HA
/-! A42: a list times an int as a new list; tables stay where objects change. -/
namespace HA
open PySem PySem.Spec L2
def bRepL : A2 := fun x y M Q => match x, y with
  | .lst xs, .int k => (-(2 ^ 62) ≤ k ∧ k ≤ 100000) ∧ xs.length ≤ 100 ∧ ∀ p, M p = none → Q (.ref p) (mset M p (.lst (List.replicate k.toNat xs).flatten))
  | _, _ => False
theorem bRepL_ok {K : PySem.W.Frag} : OkR K bRepL rRep := fun G M H x y xv yv Q R m rx ry h k => by
  unfold bRepL at h
  split at h
  · rename_i xs n
    obtain ⟨h1, h2, h3⟩ := h
    cases ry
    cases rx with
    | lst g t =>
      rename_i a vs
      have hl := t.len
      refine ⟨a, n, vs, rfl, rfl, m.same _ _ g, by omega, by omega, ?_, fun p hp => Kv.lst m k (t.rep _) hp h3⟩
      rw [sizeLine_eq, ← hl]
      have : n.toNat ≤ 100000 := by omega
      exact Nat.le_trans (Nat.mul_le_mul h2 this) (by decide)
  · exact h.elim
section
variable {X : Cx} {B : Hp} {W : WX} {a b : Expr} {ta tb : AE} {pos : Pos}
theorem qe_rep (ha : QE X B W a ta) (hb : QE X B W b tb) : QE X B W (.BinOp a .Mult b pos) (aOp bRepL ta tb) := qe_op op_rep bRepL_ok ha hb
end
section
variable {M : Mem} {Q : DK} {d : D} {n : Nat} {i : Int}
theorem flat_rep1 : (List.replicate n [d]).flatten = List.replicate n d := by
  induction n with
  | zero => rfl
  | succ n ih => rw [List.replicate_succ, List.flatten_cons, ih]; rfl
theorem i_rep1 (c : -(2 ^ 62) ≤ i ∧ i ≤ 100000) (h : ∀ p, M p = none → Q (.ref p) (mset M p (.lst (List.replicate i.toNat d)))) : bRepL (.lst [d]) (.int i) M Q := ⟨c, by simp, by rw [flat_rep1]; exact h⟩
theorem i_rep1I {k : Int} (c : -(2 ^ 62) ≤ i ∧ i ≤ 100000) (h : ∀ p, M p = none → Q (.ref p) (mset M p (.lst (List.replicate i.toNat (.int k))))) : bRepL (lI [k]) (.int i) M Q := i_rep1 c h
end
theorem TabM.set {z : Wd} {M : Mem} {a : Addr} {c d : Cell} (h : TabM z M) (ha : M a = some d) (hd : ∀ q, d ≠ .tab q) : TabM z (mset M a c) := fun i => by
  rw [mset_ne (fun e => by subst e; rw [h i] at ha; injection ha with ha; exact hd _ ha.symm)]; exact h i
theorem TabM.ins {z : Wd} {M : Mem} {a C : Addr} {fs : List (Str × D)} {c : Cell} (h : TabM z M) (ha : M a = some (.ins C fs)) : TabM z (mset M a c) := h.set ha fun q e => nomatch e
theorem TabM.lst {z : Wd} {M : Mem} {a : Addr} {xs : List D} {c : Cell} (h : TabM z M) (ha : M a = some (.lst xs)) : TabM z (mset M a c) := h.set ha fun q e => nomatch e
end HA
/-! A43: list(range(n)), tuple(range(n)) -/
namespace HA
open PySem PySem.Spec PyProof.Rows L2
section
variable {X : Cx} {B : Hp} {W : WX} {a : Expr} {ta : AE} {pos p p2 p3 : Pos}
theorem rp_range {K : PySem.W.Frag} {G : Hp} {j : Int} : RpA K G (rangeD 0 j.toNat) (rgV 0 j) := by
  have e1 : rangeD 0 j.toNat = ((List.range j.toNat).map fun (i : Nat) => (0 + (i : Int))).map D.int := by unfold rangeD; rw [List.map_map]; rfl
  have e2 : rgV 0 j = ((List.range j.toNat).map fun (i : Nat) => (0 + (i : Int))).map V.int := by unfold rgV; rw [Int.sub_zero, List.map_map]; rfl
  rw [e1, e2]; exact RpA.ints _
/-- list(range(n)), a new list -/
def aListR (ta : AE) : AE := fun σ M Q E => ta σ M (fun x M1 => ∃ j : Int, x = .int j ∧ (0 ≤ j ∧ j ≤ 1000000) ∧ ∀ p, M1 p = none → Q (.ref p) (mset M1 p (.lst (rangeD 0 j.toNat)))) E
def aListRF (ta : AE) : AE := fun σ M Q E => ta σ M (fun x M1 => ∃ j : Int, x = .int j ∧ (0 ≤ j ∧ j ≤ 1000000) ∧ Q (.lst (rangeD 0 j.toNat)) M1) E
def aTupR (ta : AE) : AE := fun σ M Q E => ta σ M (fun x M1 => ∃ j : Int, x = .int j ∧ (0 ≤ j ∧ j ≤ 1000000) ∧ Q (.tup (rangeD 0 j.toNat)) M1) E
theorem qe_listR (hg : Gl X "list") (hm : X.mg "list" = none) (hg2 : Gl X "range") (hm2 : X.mg "range" = none) (ha : QE X B W a ta) (hc : X.calm = true := by rfl)
    (na : starEach [a] X.env = (false, eval a X.env) :: starEach [] X.env := by rfl) (nb : starEach [Expr.Call (.Name "range" p2) [a] [] p3] X.env = (false, eval (Expr.Call (.Name "range" p2) [a] [] p3) X.env) :: starEach [] X.env := by rfl) : QE X B W (.Call (.Name "list" p) [.Call (.Name "range" p2) [a] [] p3] [] pos) (aListR ta) :=
  pe_imp (pe_listRg hc hg hm (prg_1 hg2 hm2 ha na) nb) fun s H R ⟨G, σ, M, Q, E, ss, h, k, kx⟩ => ⟨G, σ, M, _, E, ss, h, fun v H1 ⟨d, M1, G1, e1, m1, rd, j, ej, hj, q⟩ => by
    subst ej; cases rd
    exact ⟨j, rfl, RgOk.of_le (by decide) (by omega) (by decide) hj.1, fun p hp => Kv.lst m1 (fun v H' kv => k v H' (kv.lift e1)) rp_range hp q⟩, kx⟩
theorem qe_listRF (hg : Gl X "list") (hm : X.mg "list" = none) (hg2 : Gl X "range") (hm2 : X.mg "range" = none) (ha : QE X B W a ta) (hc : X.calm = true := by rfl)
    (na : starEach [a] X.env = (false, eval a X.env) :: starEach [] X.env := by rfl) (nb : starEach [Expr.Call (.Name "range" p2) [a] [] p3] X.env = (false, eval (Expr.Call (.Name "range" p2) [a] [] p3) X.env) :: starEach [] X.env := by rfl) : QE X B W (.Call (.Name "list" p) [.Call (.Name "range" p2) [a] [] p3] [] pos) (aListRF ta) :=
  pe_imp (pe_listRg hc hg hm (prg_1 hg2 hm2 ha na) nb) fun s H R ⟨G, σ, M, Q, E, ss, h, k, kx⟩ => ⟨G, σ, M, _, E, ss, h, fun v H1 ⟨d, M1, G1, e1, m1, rd, j, ej, hj, q⟩ => by
    subst ej; cases rd
    exact ⟨j, rfl, RgOk.of_le (by decide) (by omega) (by decide) hj.1, fun p hp => Kv.lstF m1 (fun v H' kv => k v H' (kv.lift e1)) rp_range hp q⟩, kx⟩
theorem qe_tupR (hg : Gl X "tuple") (hm : X.mg "tuple" = none) (hg2 : Gl X "range") (hm2 : X.mg "range" = none) (ha : QE X B W a ta) (hc : X.calm = true := by rfl)
    (na : starEach [a] X.env = (false, eval a X.env) :: starEach [] X.env := by rfl) (nb : starEach [Expr.Call (.Name "range" p2) [a] [] p3] X.env = (false, eval (Expr.Call (.Name "range" p2) [a] [] p3) X.env) :: starEach [] X.env := by rfl) : QE X B W (.Call (.Name "tuple" p) [.Call (.Name "range" p2) [a] [] p3] [] pos) (aTupR ta) :=
  pe_imp (pe_tupRg hc hg hm (prg_1 hg2 hm2 ha na) nb) fun s H R ⟨G, σ, M, Q, E, ss, h, k, kx⟩ => ⟨G, σ, M, _, E, ss, h, fun v H1 ⟨d, M1, G1, e1, m1, rd, j, ej, hj, q⟩ => by
    subst ej; cases rd
    exact ⟨j, rfl, RgOk.of_le (by decide) (by omega) (by decide) hj.1, fun p hp => Kv.tup m1 (fun v H' kv => k v H' (kv.lift e1)) rp_range hp q⟩, kx⟩
end
section
variable {σ : AS} {M : Mem} {Q : DK} {E : AXs} {ta : AE} {n : Nat}
def lrK (Q : DK) : DK := fun x M1 => ∃ j : Int, x = .int j ∧ (0 ≤ j ∧ j ≤ 1000000) ∧ ∀ p, M1 p = none → Q (.ref p) (mset M1 p (.lst (rangeD 0 j.toNat)))
theorem i_lr (h : ta σ M (lrK Q) E) : aListR ta σ M Q E := h
theorem i_lrK {j : Int} (c : 0 ≤ j ∧ j ≤ 1000000) (h : ∀ p, M p = none → Q (.ref p) (mset M p (.lst (rangeD 0 j.toNat)))) : lrK Q (.int j) M := ⟨j, rfl, c, h⟩
end
end HA
/-! A44: a text times an int: some text -/
namespace HA
open PySem PySem.Spec L2
theorem rep_size {a : Array Nat} : ∀ (n : Nat) (acc : Array Nat), (List.foldl (fun x1 x2 => x1 ++ x2) acc (List.replicate n a)).size = acc.size + n * a.size
  | 0, acc => by simp
  | n + 1, acc => by
    rw [List.replicate_succ, List.foldl_cons, rep_size n, Array.size_append, Nat.succ_mul]; omega
theorem op_mulStr {X : Cx} : OpR X (binaryOp .Mult) (fun x y H Q => ∃ (t : Str) (k : Int), x = V.str t ∧ y = V.int k ∧ (2 ≤ k ∧ k ≤ 1000) ∧ (1 ≤ t.length ∧ t.length ≤ 1000) ∧ ∀ y, Q (.str y) H) := (by exact HA.Wq.get : @HA.Wq (OpR X (binaryOp .Mult) (fun x y H Q => ∃ (t : Str) (k : Int), x = V.str t ∧ y = V.int k ∧ (2 ≤ k ∧ k ≤ 1000) ∧ (1 ≤ t.length ∧ t.length ≤ 1000) ∧ ∀ y, Q (.str y) H)) (by
  intro pins s σ H x y v u Q I rx ry h
  obtain ⟨t, k, rfl, rfl, ⟨k1, k2⟩, ⟨t1, t2⟩, q⟩ := h
  obtain ⟨tk, rfl⟩ := rx
  obtain ⟨tj, rfl⟩ := ry
  have hm : t.length * k.toNat ≤ 1000 * 1000 := Nat.mul_le_mul t2 (by omega)
  have hk1 : (k == 1 || t.length == 0) = false := by
    have a1 : (k == 1) = false := by simp; omega
    have a2 : (t.length == 0) = false := by simp; omega
    rw [a1, a2]; rfl
  refine P.mul_str (by simp; omega) (fun _ _ => ?_) (fun _ _ => ?_) ?_
  · have : (1000000000000 : Int) ≤ (2 ^ 63 - 1) / k := (Int.le_ediv_iff_mul_le (by omega)).mpr (by omega)
    omega
  · exact decide_eq_false (by rw [sizeLine_eq]; omega)
  · rw [if_neg (by omega), hk1]
    refine ⟨?_, ?_⟩
    · show (List.foldl (fun x1 x2 => x1 ++ x2) #[] (List.replicate k.toNat t.cps)).size ≤ sizeLine
      rw [rep_size, sizeLine_eq]
      have : k.toNat * t.cps.size = t.length * k.toNat := Nat.mul_comm _ _
      simp; omega
    · exact ⟨.str _, H, I.tok _, ⟨_, rfl⟩, q _⟩))
def bMulS : A2 := fun x y M Q => match x, y with
  | .str t, .int k => (2 ≤ k ∧ k ≤ 1000) ∧ (1 ≤ t.length ∧ t.length ≤ 1000) ∧ ∀ y, Q (.str y) M
  | _, _ => False
theorem bMulS_ok {K : PySem.W.Frag} : OkR K bMulS (fun x y H Q => ∃ (t : Str) (k : Int), x = V.str t ∧ y = V.int k ∧ (2 ≤ k ∧ k ≤ 1000) ∧ (1 ≤ t.length ∧ t.length ≤ 1000) ∧ ∀ y, Q (.str y) H) := fun G M H x y xv yv Q R m rx ry h k => by
  unfold bMulS at h
  split at h
  · cases rx; cases ry
    exact ⟨_, _, rfl, rfl, h.1, h.2.1, fun y => k _ _ (.here m (.str y) (h.2.2 y))⟩
  · exact h.elim
section
variable {X : Cx} {B : Hp} {W : WX} {a b : Expr} {ta tb : AE} {pos : Pos}
theorem qe_mulS (ha : QE X B W a ta) (hb : QE X B W b tb) : QE X B W (.BinOp a .Mult b pos) (aOp bMulS ta tb) := qe_op op_mulStr bMulS_ok ha hb
end
theorem i_mulS {M : Mem} {Q : DK} {t : Str} {k : Int} (c : 2 ≤ k ∧ k ≤ 1000) (c2 : 1 ≤ t.length ∧ t.length ≤ 1000) (h : ∀ y, Q (.str y) M) : bMulS (.str t) (.int k) M Q := ⟨c, c2, h⟩
end HA
/-! PC: words, ChaCha20's rounds: plain law, what each def promises -/
namespace Sh
open PySem PySem.Spec L2 HA PyProof.Rows
theorem and_dis {a y k : Nat} (h : y < 2 ^ k) : (a * 2 ^ k) &&& y = 0 := (by exact HA.Wq.get : @HA.Wq ((a * 2 ^ k) &&& y = 0) (by
  apply Nat.eq_of_testBit_eq
  intro i
  rw [Nat.testBit_and, Nat.zero_testBit, Nat.testBit_mul_two_pow]
  by_cases hi : k ≤ i
  · have : y.testBit i = false := Nat.testBit_lt_two_pow (Nat.lt_of_lt_of_le h (Nat.pow_le_pow_right (by decide) hi))
    rw [this, Bool.and_false]
  · simp [hi]))
theorem or_dis {a y : Nat} {k : Nat} (h : y < 2 ^ k) : Builtin.bitOr ((a * 2 ^ k : Nat) : Int) (y : Int) = ((a * 2 ^ k + y : Nat) : Int) := by
  rw [bitOr_and, PySem.W.os_band, and_dis h]
  omega
theorem bit2 (n : Nat) : n % 2 = (n.testBit 0).toNat := (by exact HA.Wq.get : @HA.Wq (n % 2 = (n.testBit 0).toNat) (by
  rw [Nat.testBit_zero]
  rcases Nat.mod_two_eq_zero_or_one n with h | h
  · rw [h]; rfl
  · rw [h]; rfl))
theorem bool_sum (p q : Bool) : (p ^^ q).toNat + 2 * (p && q).toNat = p.toNat + q.toNat := by cases p <;> cases q <;> rfl
theorem xor_sum : ∀ a b : Nat, (a ^^^ b) + 2 * (a &&& b) = a + b := (by exact HA.Wq.get : @HA.Wq (∀ a b : Nat, (a ^^^ b) + 2 * (a &&& b) = a + b) (by
  intro a
  induction a using Nat.strongRecOn with
  | _ a ih =>
    intro b
    by_cases h0 : a = 0
    · subst h0; simp
    · have i := ih (a / 2) (by omega) (b / 2)
      have x1 : (a ^^^ b) / 2 = a / 2 ^^^ b / 2 := Nat.xor_div_two
      have x2 : (a &&& b) / 2 = a / 2 &&& b / 2 := Nat.and_div_two
      have m1 : (a ^^^ b) % 2 = (a.testBit 0 ^^ b.testBit 0).toNat := by rw [bit2, Nat.testBit_xor]
      have m2 : (a &&& b) % 2 = (a.testBit 0 && b.testBit 0).toNat := by rw [bit2, Nat.testBit_and]
      have ma := bit2 a
      have mb := bit2 b
      have bs := bool_sum (a.testBit 0) (b.testBit 0)
      rw [← x1, ← x2] at i
      omega))
theorem xorN (a b : Nat) : Builtin.bitXor (a : Int) (b : Int) = ((a ^^^ b : Nat) : Int) := by
  rw [bitXor_and, PySem.W.os_band]
  have := xor_sum a b
  omega
/-- a word turned left -/
def rotl (d k : Nat) : Nat := d * 2 ^ k % 2 ^ 32 + d / 2 ^ (32 - k)
theorem rotl_lt {d k : Nat} (h : d < 2 ^ 32) (hk : k ≤ 32) : rotl d k < 2 ^ 32 := (by exact HA.Wq.get : @HA.Wq (rotl d k < 2 ^ 32) (by
  unfold rotl
  have e : (2 : Nat) ^ 32 = 2 ^ (32 - k) * 2 ^ k := by rw [← Nat.pow_add]; congr 1; omega
  have h1 : d / 2 ^ (32 - k) < 2 ^ k := Nat.div_lt_of_lt_mul (by rw [← e]; exact h)
  have h2 : d * 2 ^ k % 2 ^ 32 = (d % 2 ^ (32 - k)) * 2 ^ k := by rw [e, Nat.mul_mod_mul_right]
  have h3 := Nat.mod_lt d (Nat.two_pow_pos (32 - k))
  rw [h2, e]
  have := Nat.mul_le_mul_right (2 ^ k) (show d % 2 ^ (32 - k) + 1 ≤ 2 ^ (32 - k) by omega)
  rw [Nat.add_mul, Nat.one_mul] at this
  omega))
/-- the program's way to turn -/
theorem rot_prog {d k : Nat} (h : d < 2 ^ 32) (hk : k ≤ 32) : Builtin.bitOr (Builtin.bitAnd ((d : Int) * 2 ^ k) 4294967295) ((d : Int) / 2 ^ (32 - k)) = ((rotl d k : Nat) : Int) := (by exact HA.Wq.get : @HA.Wq (Builtin.bitOr (Builtin.bitAnd ((d : Int) * 2 ^ k) 4294967295) ((d : Int) / 2 ^ (32 - k)) = ((rotl d k : Nat) : Int)) (by
  have e : (2 : Nat) ^ 32 = 2 ^ (32 - k) * 2 ^ k := by rw [← Nat.pow_add]; congr 1; omega
  have h1 : d / 2 ^ (32 - k) < 2 ^ k := Nat.div_lt_of_lt_mul (by rw [← e]; exact h)
  have h2 : d * 2 ^ k % 2 ^ 32 = (d % 2 ^ (32 - k)) * 2 ^ k := by rw [e, Nat.mul_mod_mul_right]
  rw [bitAnd_m32]
  have e1 : (d : Int) * 2 ^ k % 4294967296 = ((d * 2 ^ k % 2 ^ 32 : Nat) : Int) := by
    have : ((2 ^ 32 : Nat) : Int) = 4294967296 := by decide
    rw [Int.natCast_emod, this, Int.natCast_mul, Int.natCast_pow]; rfl
  have e2 : (d : Int) / 2 ^ (32 - k) = ((d / 2 ^ (32 - k) : Nat) : Int) := by
    rw [Int.natCast_ediv, Int.natCast_pow]; rfl
  rw [e1, e2, h2, or_dis h1, ← h2]
  rfl))
theorem split32 {k : Nat} (hk : k ≤ 32) : (2 : Nat) ^ 32 = 2 ^ (32 - k) * 2 ^ k := by rw [← Nat.pow_add]; congr 1; omega
/-- turned, as high and low parts -/
theorem rotl_eq {d k : Nat} (hk : k ≤ 32) : rotl d k = d % 2 ^ (32 - k) * 2 ^ k + d / 2 ^ (32 - k) := by
  unfold rotl
  rw [split32 hk, Nat.mul_mod_mul_right]
/-- the law's way to turn -/
theorem rot_law {d k : Nat} (hk : k ≤ 32) : ((d : Int) * 2 ^ k) % 4294967296 + ((d : Int) * 2 ^ k) / 4294967296 = ((rotl d k : Nat) : Int) := (by exact HA.Wq.get : @HA.Wq (((d : Int) * 2 ^ k) % 4294967296 + ((d : Int) * 2 ^ k) / 4294967296 = ((rotl d k : Nat) : Int)) (by
  have e0 : ((2 ^ 32 : Nat) : Int) = 4294967296 := by decide
  have e1 : (d : Int) * 2 ^ k = ((d * 2 ^ k : Nat) : Int) := by rw [Int.natCast_mul, Int.natCast_pow]; rfl
  have e2 : d * 2 ^ k / 2 ^ 32 = d / 2 ^ (32 - k) := by rw [split32 hk, Nat.mul_div_mul_right _ _ (Nat.two_pow_pos k)]
  rw [e1, ← e0, ← Int.natCast_emod, ← Int.natCast_ediv, e2, ← Int.natCast_add]
  rfl))
/-- turned back -/
theorem rotl_back {d k : Nat} (h : d < 2 ^ 32) (hk : k ≤ 32) : rotl (rotl d k) (32 - k) = d := (by exact HA.Wq.get : @HA.Wq (rotl (rotl d k) (32 - k) = d) (by
  have hk2 : 32 - k ≤ 32 := by omega
  have hs : 32 - (32 - k) = k := by omega
  rw [rotl_eq hk2, hs, rotl_eq hk]
  have h1 : d / 2 ^ (32 - k) < 2 ^ k := Nat.div_lt_of_lt_mul (by rw [← split32 hk]; exact h)
  have p := Nat.two_pow_pos k
  rw [Nat.mul_comm (d % 2 ^ (32 - k)) (2 ^ k), Nat.mul_add_mod, Nat.mod_eq_of_lt h1, Nat.mul_add_div p, Nat.div_eq_of_lt h1, Nat.add_zero, Nat.mul_comm]
  exact Nat.div_add_mod d (2 ^ (32 - k))))
/-- the program's way back -/
theorem rot_back_prog {d k : Nat} (h : d < 2 ^ 32) (hk : k ≤ 32) : Builtin.bitOr ((d : Int) / 2 ^ k) (Builtin.bitAnd ((d : Int) * 2 ^ (32 - k)) 4294967295) = ((rotl d (32 - k) : Nat) : Int) := (by exact HA.Wq.get : @HA.Wq (Builtin.bitOr ((d : Int) / 2 ^ k) (Builtin.bitAnd ((d : Int) * 2 ^ (32 - k)) 4294967295) = ((rotl d (32 - k) : Nat) : Int)) (by
  have hs : 32 - (32 - k) = k := by omega
  have := rot_prog (d := d) (k := 32 - k) h (by omega)
  rw [hs] at this
  rw [bitOr_comm, this]))
/-- sums and differences of words -/
theorem add_word (a b : Nat) : Builtin.bitAnd ((a : Int) + b) 4294967295 = (((a + b) % 2 ^ 32 : Nat) : Int) := by
  have e0 : ((2 ^ 32 : Nat) : Int) = 4294967296 := by decide
  rw [bitAnd_m32, Int.natCast_emod, e0]; rfl
def sub32 (a b : Nat) : Nat := (a + (2 ^ 32 - b)) % 2 ^ 32
theorem sub_word {a b : Nat} (hb : b < 2 ^ 32) : Builtin.bitAnd ((a : Int) - b) 4294967295 = ((sub32 a b : Nat) : Int) := by
  rw [bitAnd_m32]
  unfold sub32
  omega
theorem sub_add {a b : Nat} (ha : a < 2 ^ 32) (hb : b < 2 ^ 32) : sub32 ((a + b) % 2 ^ 32) b = a := by unfold sub32; omega
theorem xor_lt {a b : Nat} (ha : a < 2 ^ 32) (hb : b < 2 ^ 32) : a ^^^ b < 2 ^ 32 := Nat.xor_lt_two_pow ha hb
theorem xor_xor (a b : Nat) : a ^^^ b ^^^ b = a := by rw [Nat.xor_assoc, Nat.xor_self, Nat.xor_zero]
/-- one half of a quarter -/
def half (k l : Nat) : Nat × Nat × Nat × Nat → Nat × Nat × Nat × Nat := fun (a, b, c, d) =>
  let a := (a + b) % 2 ^ 32
  let d := rotl (d ^^^ a) k
  let c := (c + d) % 2 ^ 32
  let b := rotl (b ^^^ c) l
  (a, b, c, d)
def unhalf (k l : Nat) : Nat × Nat × Nat × Nat → Nat × Nat × Nat × Nat := fun (a, b, c, d) =>
  let b := rotl b (32 - l) ^^^ c
  let c := sub32 c d
  let d := rotl d (32 - k) ^^^ a
  let a := sub32 a b
  (a, b, c, d)
def W4 (q : Nat × Nat × Nat × Nat) : Prop := q.1 < 2 ^ 32 ∧ q.2.1 < 2 ^ 32 ∧ q.2.2.1 < 2 ^ 32 ∧ q.2.2.2 < 2 ^ 32
theorem half_W {k l : Nat} (hk : k ≤ 32) (hl : l ≤ 32) : ∀ q, W4 q → W4 (half k l q) := fun (a, b, c, d) ⟨h1, h2, h3, h4⟩ => by
  have m : ∀ x, x % 2 ^ 32 < 2 ^ 32 := fun x => Nat.mod_lt _ (by decide)
  exact ⟨m _, rotl_lt (xor_lt h2 (m _)) hl, m _, rotl_lt (xor_lt h4 (m _)) hk⟩
theorem un_half {k l : Nat} (hk : k ≤ 32) (hl : l ≤ 32) : ∀ q, W4 q → unhalf k l (half k l q) = q := fun (a, b, c, d) ⟨h1, h2, h3, h4⟩ => by
  have m : ∀ x, x % 2 ^ 32 < 2 ^ 32 := fun x => Nat.mod_lt _ (by decide)
  have h1 : a < 2 ^ 32 := h1
  have h2 : b < 2 ^ 32 := h2
  have h3 : c < 2 ^ 32 := h3
  have h4 : d < 2 ^ 32 := h4
  simp only [half, unhalf]
  rw [rotl_back (xor_lt h2 (m _)) hl, xor_xor, rotl_back (xor_lt h4 (m _)) hk, xor_xor, sub_add h1 h2, sub_add h3 (rotl_lt (xor_lt h4 (m _)) hk)]
abbrev Wd4 : Type := Nat × Nat × Nat × Nat
/-- a quarter, and its way back -/
def qrt (q : Wd4) : Wd4 := half 8 7 (half 16 12 q)
def unq (q : Wd4) : Wd4 := unhalf 16 12 (unhalf 8 7 q)
theorem unq_qrt {q : Wd4} (h : W4 q) : unq (qrt q) = q := by
  unfold unq qrt
  rw [un_half (by decide) (by decide) _ (half_W (by decide) (by decide) _ h), un_half (by decide) (by decide) _ h]
theorem qrt_W {q : Wd4} (h : W4 q) : W4 (qrt q) := half_W (by decide) (by decide) _ (half_W (by decide) (by decide) _ h)
theorem sub_lt {a b : Nat} : sub32 a b < 2 ^ 32 := Nat.mod_lt _ (by decide)
theorem unhalf_W {k l : Nat} : ∀ q, W4 q → W4 (unhalf k l q) := fun (a, b, c, d) ⟨h1, h2, h3, h4⟩ => by
  exact ⟨sub_lt, xor_lt (rotl_lt h2 (by omega)) h3, sub_lt, xor_lt (rotl_lt h4 (by omega)) h1⟩
theorem unq_W {q : Wd4} (h : W4 q) : W4 (unq q) := unhalf_W _ (unhalf_W _ h)
/-! rows of words -/
def wI (ws : List Nat) : List Int := ws.map fun (n : Nat) => (n : Int)
abbrev tW (ws : List Nat) : D := tI (wI ws)
abbrev cW (ws : List Nat) : Cell := .lst ((wI ws).map D.int)
def WsOk (ws : List Nat) : Prop := ∀ w ∈ ws, w < 2 ^ 32
def St (ws : List Nat) : Prop := ws.length = 16 ∧ WsOk ws
theorem wI_len {ws : List Nat} : (wI ws).length = ws.length := by simp [wI]
theorem at_w {ws : List Nat} {i : Nat} (h : i < ws.length) : atI ((wI ws).map D.int) (i : Int) = some (.int ((ws.getD i 0 : Nat) : Int)) := by
  rw [atI_map, atI_nat (by rw [wI_len]; exact h)]
  simp [wI, List.getD_eq_getElem?_getD, List.getElem?_eq_getElem h]
theorem set_w {ws : List Nat} {i v : Nat} : ((wI ws).map D.int).set i (.int (v : Int)) = (wI (ws.set i v)).map D.int := by
  simp [wI, List.map_set]
theorem wI_small {ws : List Nat} (h : WsOk ws) : SmallI (wI ws) := fun n hn => by
  obtain ⟨w, hw, rfl⟩ := List.mem_map.mp hn
  exact sm64 (by have := h w hw; omega)
theorem getD_lt {ws : List Nat} (h : WsOk ws) (i : Nat) : ws.getD i 0 < 2 ^ 32 := (by exact HA.Wq.get : @HA.Wq (ws.getD i 0 < 2 ^ 32) (by
  rw [List.getD_eq_getElem?_getD]
  cases e : ws[i]? with
  | none => decide
  | some w => exact h w (List.mem_of_getElem? e)))
theorem WsOk.set {ws : List Nat} (h : WsOk ws) {i v : Nat} (hv : v < 2 ^ 32) : WsOk (ws.set i v) := fun w hw => by
  rcases List.mem_or_eq_of_mem_set hw with h1 | rfl
  · exact h w h1
  · exact hv
/-- the four words at four places -/
def at4 (ws : List Nat) (L : Wd4) : Wd4 := (ws.getD L.1 0, ws.getD L.2.1 0, ws.getD L.2.2.1 0, ws.getD L.2.2.2 0)
def put4 (ws : List Nat) (L q : Wd4) : List Nat := (((ws.set L.1 q.1).set L.2.1 q.2.1).set L.2.2.1 q.2.2.1).set L.2.2.2 q.2.2.2
def qat (ws : List Nat) (L : Wd4) : List Nat := put4 ws L (qrt (at4 ws L))
def uat (ws : List Nat) (L : Wd4) : List Nat := put4 ws L (unq (at4 ws L))
theorem at4_W {ws : List Nat} (h : WsOk ws) (L : Wd4) : W4 (at4 ws L) := ⟨getD_lt h _, getD_lt h _, getD_lt h _, getD_lt h _⟩
theorem put4_len {ws : List Nat} {L q : Wd4} : (put4 ws L q).length = ws.length := by simp [put4]
theorem put4_ok {ws : List Nat} {L q : Wd4} (h : WsOk ws) (hq : W4 q) : WsOk (put4 ws L q) := (((h.set hq.1).set hq.2.1).set hq.2.2.1).set hq.2.2.2
theorem qat_len {ws : List Nat} {L : Wd4} : (qat ws L).length = ws.length := put4_len
theorem uat_len {ws : List Nat} {L : Wd4} : (uat ws L).length = ws.length := put4_len
theorem qat_ok {ws : List Nat} {L : Wd4} (h : WsOk ws) : WsOk (qat ws L) := put4_ok h (qrt_W (at4_W h L))
theorem uat_ok {ws : List Nat} {L : Wd4} (h : WsOk ws) : WsOk (uat ws L) := put4_ok h (unq_W (at4_W h L))
def lineI (L : Wd4) : List Int := [(L.1 : Int), L.2.1, L.2.2.1, L.2.2.2]
def In (n : Nat) (L : Wd4) : Prop := L.1 < n ∧ L.2.1 < n ∧ L.2.2.1 < n ∧ L.2.2.2 < n
instance {n : Nat} {L : Wd4} : Decidable (In n L) := by unfold In; infer_instance
def COLS : List Wd4 := [(0, 4, 8, 12), (1, 5, 9, 13), (2, 6, 10, 14), (3, 7, 11, 15)]
def DIAS : List Wd4 := [(0, 5, 10, 15), (1, 6, 11, 12), (2, 7, 8, 13), (3, 4, 9, 14)]
abbrev tL (ls : List Wd4) : D := tT (ls.map lineI)
def trn (ls : List Wd4) (ws : List Nat) : List Nat := ls.foldl qat ws
def bck (ls : List Wd4) (ws : List Nat) : List Nat := ls.foldl uat ws
theorem trn_len {ls : List Wd4} : ∀ {ws : List Nat}, (trn ls ws).length = ws.length := by
  unfold trn
  induction ls with
  | nil => exact rfl
  | cons L r ih => intro ws; exact ih.trans qat_len
theorem trn_ok {ls : List Wd4} : ∀ {ws : List Nat}, WsOk ws → WsOk (trn ls ws) := by
  unfold trn
  induction ls with
  | nil => exact fun h => h
  | cons L r ih => exact fun h => ih (qat_ok h)
theorem bck_len {ls : List Wd4} : ∀ {ws : List Nat}, (bck ls ws).length = ws.length := by
  unfold bck
  induction ls with
  | nil => exact rfl
  | cons L r ih => intro ws; exact ih.trans uat_len
theorem bck_ok {ls : List Wd4} : ∀ {ws : List Nat}, WsOk ws → WsOk (bck ls ws) := by
  unfold bck
  induction ls with
  | nil => exact fun h => h
  | cons L r ih => exact fun h => ih (uat_ok h)
@[irreducible] def dr (ws : List Nat) : List Nat := trn DIAS (trn COLS ws)
@[irreducible] def bdr (ws : List Nat) : List Nat := bck COLS (bck DIAS ws)
def drsR : Nat → List Nat → List Nat
  | 0, ws => ws
  | n + 1, ws => dr (drsR n ws)
def bdrsR : Nat → List Nat → List Nat
  | 0, ws => ws
  | n + 1, ws => bdr (bdrsR n ws)
@[irreducible] def drs (n : Nat) (ws : List Nat) : List Nat := drsR n ws
@[irreducible] def bdrs (n : Nat) (ws : List Nat) : List Nat := bdrsR n ws
theorem drs0 {ws : List Nat} : drs 0 ws = ws := by unfold drs; rfl
theorem drsS {n : Nat} {ws : List Nat} : drs (n + 1) ws = dr (drs n ws) := by unfold drs; rfl
theorem bdrs0 {ws : List Nat} : bdrs 0 ws = ws := by unfold bdrs; rfl
theorem bdrsS {n : Nat} {ws : List Nat} : bdrs (n + 1) ws = bdr (bdrs n ws) := by unfold bdrs; rfl
theorem drs1 {ws : List Nat} : drs 1 ws = dr ws := by rw [drsS, drs0]
theorem bdrs1 {ws : List Nat} : bdrs 1 ws = bdr ws := by rw [bdrsS, bdrs0]
theorem dr_eq {ws : List Nat} : dr ws = trn DIAS (trn COLS ws) := by unfold dr; rfl
theorem bdr_eq {ws : List Nat} : bdr ws = bck COLS (bck DIAS ws) := by unfold bdr; rfl
theorem dr_st {ws : List Nat} (h : St ws) : St (dr ws) := by rw [dr_eq]; exact ⟨by rw [trn_len, trn_len, h.1], trn_ok (trn_ok h.2)⟩
theorem bdr_st {ws : List Nat} (h : St ws) : St (bdr ws) := by rw [bdr_eq]; exact ⟨by rw [bck_len, bck_len, h.1], bck_ok (bck_ok h.2)⟩
theorem drs_st {ws : List Nat} (h : St ws) : ∀ {n : Nat}, St (drs n ws)
  | 0 => by rw [drs0]; exact h
  | n + 1 => by rw [drsS]; exact dr_st (drs_st h)
theorem bdrs_st {ws : List Nat} (h : St ws) : ∀ {n : Nat}, St (bdrs n ws)
  | 0 => by rw [bdrs0]; exact h
  | n + 1 => by rw [bdrsS]; exact bdr_st (bdrs_st h)
def movd (by_ : Nat) (ws : List Nat) : List Nat := (List.range 16).map fun i => ws.getD (i - i % 4 + (i + by_) % 4) 0
theorem movd_st {ws : List Nat} (h : St ws) {b : Nat} : St (movd b ws) := ⟨by simp [movd], fun w hw => by
  obtain ⟨i, _, rfl⟩ := List.mem_map.mp hw
  exact getD_lt h.2 _⟩
/-! what each def promises -/
def q4 (q : Wd4) : D := .tup [.int q.1, .int q.2.1, .int q.2.2.1, .int q.2.2.2]
def l4 (q : Wd4) : List D := [.int q.1, .int q.2.1, .int q.2.2.1, .int q.2.2.2]
def sp_quarter (z : Wd) : ASp := fun ds M Q _ => ∃ q : Wd4, ds = l4 q ∧ W4 q ∧ Q (tI (lineI (qrt q))) M
def sp_unquarter (z : Wd) : ASp := fun ds M Q _ => ∃ q : Wd4, ds = l4 q ∧ W4 q ∧ Q (tI (lineI (unq q))) M
def sp_quarter_at (z : Wd) : ASp := fun ds M Q _ => ∃ (ws : List Nat) (L : Wd4), ds = [tW ws, tI (lineI L)] ∧ WsOk ws ∧ In ws.length L ∧ ws.length ≤ 100 ∧ Q (tW (qat ws L)) M
def sp_turn (z : Wd) : ASp := fun ds M Q _ => ∃ (p : Addr) (ws : List Nat) (ls : List Wd4), ds = [.ref p, tL ls] ∧ M p = some (cW ws) ∧ WsOk ws ∧ (∀ L ∈ ls, In ws.length L) ∧ Q .non (mset M p (cW (trn ls ws)))
def sp_turn_back (z : Wd) : ASp := fun ds M Q _ => ∃ (p : Addr) (ws : List Nat) (ls : List Wd4), ds = [.ref p, tL ls] ∧ M p = some (cW ws) ∧ WsOk ws ∧ (∀ L ∈ ls, In ws.length L) ∧ Q .non (mset M p (cW (bck ls ws)))
def sp_double_round (z : Wd) : ASp := fun ds M Q _ => ∃ (ws : List Nat), ds = [tW ws] ∧ St ws ∧ Q (tW (dr ws)) M
def sp_double_back (z : Wd) : ASp := fun ds M Q _ => ∃ (ws : List Nat), ds = [tW ws] ∧ St ws ∧ Q (tW (bdr ws)) M
def sp_double_rounds (z : Wd) : ASp := fun ds M Q _ => ∃ (ws : List Nat) (n : Nat), ds = [tW ws, .int n] ∧ St ws ∧ n ≤ 1000 ∧ Q (tW (drs n ws)) M
def sp_double_rounds_back (z : Wd) : ASp := fun ds M Q _ => ∃ (ws : List Nat) (n : Nat), ds = [tW ws, .int n] ∧ St ws ∧ n ≤ 1000 ∧ Q (tW (bdrs n ws)) M
def sp_rows_turned (z : Wd) : ASp := fun ds M Q _ => ∃ (ws : List Nat) (n : Nat), ds = [tW ws, .int n] ∧ St ws ∧ n ≤ 1000 ∧ Q (tW (movd n ws)) M
def sp_law_word (z : Wd) : ASp := fun ds M Q _ => ∃ (x : D), ds = [x] ∧ Deal M x ∧ ∀ w : Nat, w < 2 ^ 32 → Q (.int w) M
def Dis (L : Wd4) : Prop := L.1 ≠ L.2.1 ∧ L.1 ≠ L.2.2.1 ∧ L.1 ≠ L.2.2.2 ∧ L.2.1 ≠ L.2.2.1 ∧ L.2.1 ≠ L.2.2.2 ∧ L.2.2.1 ≠ L.2.2.2
instance {L : Wd4} : Decidable (Dis L) := by unfold Dis; infer_instance
def sp_law_quarter (z : Wd) : ASp := fun ds M Q _ => ∃ (p : Addr) (ws : List Nat) (L : Wd4), ds = [.ref p, .int L.1, .int L.2.1, .int L.2.2.1, .int L.2.2.2] ∧ M p = some (cW ws) ∧ WsOk ws ∧ In ws.length L ∧ Dis L ∧ Q .non (mset M p (cW (qat ws L)))
def sp_law_rounds (z : Wd) : ASp := fun ds M Q _ => ∃ (ws : List Nat) (n : Nat), (ds = [tW ws, .int n] ∨ ds = [lI (wI ws), .int n]) ∧ St ws ∧ n ≤ 1000 ∧ Q (lI (wI (drs n ws))) M
abbrev sp_law_any (z : Wd) : ASp := spAny
end Sh
/-! A35: steps over plain (natural) numbers: key "nw" -/
namespace HA
open PySem PySem.Spec L2
section
variable {M : Mem} {Q : DK} {a b k : Nat}
theorem n_addcc (h : Q (.int ((a + b : Nat) : Int)) M) : bAddF (.int (a : Int)) (.int (b : Int)) M Q := i_addI (by rw [← Int.natCast_add]; exact h)
theorem n_addcl (h : Q (.int ((a + OfNat.ofNat k : Nat) : Int)) M) : bAddF (.int (a : Int)) (.int (OfNat.ofNat k : Int)) M Q := n_addcc (b := OfNat.ofNat k) h
theorem n_addlc (h : Q (.int ((OfNat.ofNat k + b : Nat) : Int)) M) : bAddF (.int (OfNat.ofNat k : Int)) (.int (b : Int)) M Q := n_addcc (a := OfNat.ofNat k) h
theorem n_subcc (c : b ≤ a) (h : Q (.int ((a - b : Nat) : Int)) M) : oSub (.int (a : Int)) (.int (b : Int)) M Q := by
  show Q (.int ((a : Int) - b)) M
  rw [← Int.natCast_sub c]; exact h
theorem n_subcl (c : OfNat.ofNat k ≤ a) (h : Q (.int ((a - OfNat.ofNat k : Nat) : Int)) M) : oSub (.int (a : Int)) (.int (OfNat.ofNat k : Int)) M Q := n_subcc (b := OfNat.ofNat k) c h
theorem n_sublc (c : b ≤ OfNat.ofNat k) (h : Q (.int ((OfNat.ofNat k - b : Nat) : Int)) M) : oSub (.int (OfNat.ofNat k : Int)) (.int (b : Int)) M Q := n_subcc (a := OfNat.ofNat k) c h
theorem MulOk.nat {a b : Nat} (ha : a < 2 ^ 250) (hb : b < 2 ^ 250) : MulOk (a : Int) (b : Int) := MulOk.of (a := 250) (b := 250) (by simpa using ha) (by simpa using hb) (by decide)
theorem n_mulcc (c : MulOk (a : Int) (b : Int)) (h : Q (.int ((a * b : Nat) : Int)) M) : bMul (.int (a : Int)) (.int (b : Int)) M Q := i_mulO c (by rw [← Int.natCast_mul]; exact h)
theorem n_mulcl (c : MulOk (a : Int) (OfNat.ofNat k : Int)) (h : Q (.int ((a * OfNat.ofNat k : Nat) : Int)) M) : bMul (.int (a : Int)) (.int (OfNat.ofNat k : Int)) M Q := n_mulcc (b := OfNat.ofNat k) c h
theorem n_mullc (c : MulOk (OfNat.ofNat k : Int) (b : Int)) (h : Q (.int ((OfNat.ofNat k * b : Nat) : Int)) M) : bMul (.int (OfNat.ofNat k : Int)) (.int (b : Int)) M Q := n_mulcc (a := OfNat.ofNat k) c h
theorem n_divcc (c : 0 < b ∧ b < 2 ^ 250) (h : Q (.int ((a / b : Nat) : Int)) M) : oDiv (.int (a : Int)) (.int (b : Int)) M Q := i_bI (DivOk.of (b := 250) (by omega) (by simpa using c.2) (by decide) (by decide)) (by show Q (.int ((a : Int) / b)) M; rw [← Int.natCast_ediv]; exact h)
theorem n_divcl (c : 0 < OfNat.ofNat k ∧ OfNat.ofNat k < 2 ^ 250) (h : Q (.int ((a / OfNat.ofNat k : Nat) : Int)) M) : oDiv (.int (a : Int)) (.int (OfNat.ofNat k : Int)) M Q := n_divcc (b := OfNat.ofNat k) c h
theorem n_modcc (c : 0 < b) (h : Q (.int ((a % b : Nat) : Int)) M) : oMod (.int (a : Int)) (.int (b : Int)) M Q := i_bI (show (0 : Int) < (b : Int) by omega) (by show Q (.int ((a : Int) % b)) M; rw [← Int.natCast_emod]; exact h)
theorem n_modcl (c : 0 < OfNat.ofNat k) (h : Q (.int ((a % OfNat.ofNat k : Nat) : Int)) M) : oMod (.int (a : Int)) (.int (OfNat.ofNat k : Int)) M Q := n_modcc (b := OfNat.ofNat k) c h
theorem n_shrcc (h : Q (.int ((a >>> b : Nat) : Int)) M) : oShr (.int (a : Int)) (.int (b : Int)) M Q := i_bI (show (0 : Int) ≤ (b : Int) by omega) (by
  show Q (.int ((a : Int) / 2 ^ (b : Int).toNat)) M
  rw [Int.toNat_natCast]
  have e : (a : Int) / 2 ^ b = ((a >>> b : Nat) : Int) := by rw [Nat.shiftRight_eq_div_pow, Int.natCast_ediv, Int.natCast_pow]; rfl
  rw [e]; exact h)
theorem n_shrcl (h : Q (.int ((a >>> OfNat.ofNat k : Nat) : Int)) M) : oShr (.int (a : Int)) (.int (OfNat.ofNat k : Int)) M Q := n_shrcc (b := OfNat.ofNat k) h
theorem n_shlcc (c : a < 2 ^ 250 ∧ b ≤ 250) (h : Q (.int ((a <<< b : Nat) : Int)) M) : oShl (.int (a : Int)) (.int (b : Int)) M Q := i_bI (ShlOk.of (n := 250) (by omega) (by simpa using c.1) (by omega)) (by
  show Q (.int ((a : Int) * 2 ^ (b : Int).toNat)) M
  rw [Int.toNat_natCast]
  have e : (a : Int) * 2 ^ b = ((a <<< b : Nat) : Int) := by rw [Nat.shiftLeft_eq, Int.natCast_mul, Int.natCast_pow]; rfl
  rw [e]; exact h)
theorem n_shlcl (c : a < 2 ^ 250 ∧ OfNat.ofNat k ≤ 250) (h : Q (.int ((a <<< OfNat.ofNat k : Nat) : Int)) M) : oShl (.int (a : Int)) (.int (OfNat.ofNat k : Int)) M Q := n_shlcc (b := OfNat.ofNat k) c h
theorem n_andcc (h : Q (.int ((a &&& b : Nat) : Int)) M) : oAnd (.int (a : Int)) (.int (b : Int)) M Q := by
  show Q (.int (Builtin.bitAnd (a : Int) b)) M
  rw [PySem.W.os_band]; exact h
theorem n_m32 {x : Int} (h : Q (.int (x % 4294967296)) M) : oAnd (.int x) (.int 4294967295) M Q := by
  show Q (.int (Builtin.bitAnd x 4294967295)) M
  rw [PyProof.Rows.bitAnd_m32]; exact h
theorem n_m32n (h : Q (.int ((a % 4294967296 : Nat) : Int)) M) : oAnd (.int (a : Int)) (.int 4294967295) M Q := n_m32 (by rw [show (a : Int) % 4294967296 = ((a % 4294967296 : Nat) : Int) by omega]; exact h)
theorem n_andcl (h : Q (.int ((a &&& OfNat.ofNat k : Nat) : Int)) M) : oAnd (.int (a : Int)) (.int (OfNat.ofNat k : Int)) M Q := n_andcc (b := OfNat.ofNat k) h
theorem n_xorcc (h : Q (.int ((a ^^^ b : Nat) : Int)) M) : oXor (.int (a : Int)) (.int (b : Int)) M Q := by
  show Q (.int (Builtin.bitXor (a : Int) b)) M
  rw [Sh.xorN]; exact h
theorem n_xorcl (h : Q (.int ((a ^^^ OfNat.ofNat k : Nat) : Int)) M) : oXor (.int (a : Int)) (.int (OfNat.ofNat k : Int)) M Q := n_xorcc (b := OfNat.ofNat k) h
theorem and_or_sum : ∀ a b : Nat, (a ||| b) + (a &&& b) = a + b := (by exact HA.Wq.get : @HA.Wq (∀ a b : Nat, (a ||| b) + (a &&& b) = a + b) (by
  intro a
  induction a using Nat.strongRecOn with
  | _ a ih =>
    intro b
    by_cases h0 : a = 0
    · subst h0; simp
    · have i := ih (a / 2) (by omega) (b / 2)
      have x1 : (a ||| b) / 2 = a / 2 ||| b / 2 := Nat.or_div_two
      have x2 : (a &&& b) / 2 = a / 2 &&& b / 2 := Nat.and_div_two
      have m1 : (a ||| b) % 2 = (a.testBit 0 || b.testBit 0).toNat := by rw [Sh.bit2, Nat.testBit_or]
      have m2 : (a &&& b) % 2 = (a.testBit 0 && b.testBit 0).toNat := by rw [Sh.bit2, Nat.testBit_and]
      have ma := Sh.bit2 a
      have mb := Sh.bit2 b
      have bs : (a.testBit 0 || b.testBit 0).toNat + (a.testBit 0 && b.testBit 0).toNat = (a.testBit 0).toNat + (b.testBit 0).toNat := by cases a.testBit 0 <;> cases b.testBit 0 <;> rfl
      rw [← x1, ← x2] at i
      omega))
theorem n_orcc (h : Q (.int ((a ||| b : Nat) : Int)) M) : oOr (.int (a : Int)) (.int (b : Int)) M Q := (by exact HA.Wq.get : @HA.Wq (oOr (.int (a : Int)) (.int (b : Int)) M Q) (by
  show Q (.int (Builtin.bitOr (a : Int) b)) M
  rw [PyProof.Rows.bitOr_and, PySem.W.os_band]
  have := and_or_sum a b
  have e : (a : Int) + b - ((a &&& b : Nat) : Int) = ((a ||| b : Nat) : Int) := by omega
  rw [e]; exact h))
theorem n_orcl (h : Q (.int ((a ||| OfNat.ofNat k : Nat) : Int)) M) : oOr (.int (a : Int)) (.int (OfNat.ofNat k : Int)) M Q := n_orcc (b := OfNat.ofNat k) h
end
end HA
/-! readings of shared defs (printed by gen4.py) -/
namespace Sh
open PySem PySem.Spec L2 HA
/-! def quarter -/
abbrev N_quarter : List Str := ["a", "b", "c", "d"]
abbrev ps_quarter : List Str := ["a", "b", "c", "d"]
abbrev t_quarter_1 (z : Wd) : ASt := (aAsg (aOp oAnd (aOp bAddF (aVar 0) (aVar 1)) (aC (.int 4294967295))) (agName 0))
abbrev t_quarter_2 (z : Wd) : ASt := (aAsg (aOp oXor (aVar 3) (aVar 0)) (agName 3))
abbrev t_quarter_3 (z : Wd) : ASt := (aAsg (aOp oOr (aOp oAnd (aOp oShl (aVar 3) (aC (.int 16))) (aC (.int 4294967295))) (aOp oShr (aVar 3) (aC (.int 16)))) (agName 3))
abbrev t_quarter_4 (z : Wd) : ASt := (aAsg (aOp oAnd (aOp bAddF (aVar 2) (aVar 3)) (aC (.int 4294967295))) (agName 2))
abbrev t_quarter_5 (z : Wd) : ASt := (aAsg (aOp oXor (aVar 1) (aVar 2)) (agName 1))
abbrev t_quarter_6 (z : Wd) : ASt := (aAsg (aOp oOr (aOp oAnd (aOp oShl (aVar 1) (aC (.int 12))) (aC (.int 4294967295))) (aOp oShr (aVar 1) (aC (.int 20)))) (agName 1))
abbrev t_quarter_7 (z : Wd) : ASt := (aAsg (aOp oAnd (aOp bAddF (aVar 0) (aVar 1)) (aC (.int 4294967295))) (agName 0))
abbrev t_quarter_8 (z : Wd) : ASt := (aAsg (aOp oXor (aVar 3) (aVar 0)) (agName 3))
abbrev t_quarter_9 (z : Wd) : ASt := (aAsg (aOp oOr (aOp oAnd (aOp oShl (aVar 3) (aC (.int 8))) (aC (.int 4294967295))) (aOp oShr (aVar 3) (aC (.int 24)))) (agName 3))
abbrev t_quarter_10 (z : Wd) : ASt := (aAsg (aOp oAnd (aOp bAddF (aVar 2) (aVar 3)) (aC (.int 4294967295))) (agName 2))
abbrev t_quarter_11 (z : Wd) : ASt := (aAsg (aOp oXor (aVar 1) (aVar 2)) (agName 1))
abbrev t_quarter_12 (z : Wd) : ASt := (aAsg (aOp oOr (aOp oAnd (aOp oShl (aVar 1) (aC (.int 7))) (aC (.int 4294967295))) (aOp oShr (aVar 1) (aC (.int 25)))) (agName 1))
abbrev t_quarter_13 (z : Wd) : ASt := (aRet (aTup (aCons (aVar 0) (aCons (aVar 1) (aCons (aVar 2) (aCons (aVar 3) aNil))))))
abbrev t_quarter_14 (z : Wd) : ASt := aSeq (t_quarter_12 z) (t_quarter_13 z)
abbrev t_quarter_15 (z : Wd) : ASt := aSeq (t_quarter_11 z) (t_quarter_14 z)
abbrev t_quarter_16 (z : Wd) : ASt := aSeq (t_quarter_10 z) (t_quarter_15 z)
abbrev t_quarter_17 (z : Wd) : ASt := aSeq (t_quarter_9 z) (t_quarter_16 z)
abbrev t_quarter_18 (z : Wd) : ASt := aSeq (t_quarter_8 z) (t_quarter_17 z)
abbrev t_quarter_19 (z : Wd) : ASt := aSeq (t_quarter_7 z) (t_quarter_18 z)
abbrev t_quarter_20 (z : Wd) : ASt := aSeq (t_quarter_6 z) (t_quarter_19 z)
abbrev t_quarter_21 (z : Wd) : ASt := aSeq (t_quarter_5 z) (t_quarter_20 z)
abbrev t_quarter_22 (z : Wd) : ASt := aSeq (t_quarter_4 z) (t_quarter_21 z)
abbrev t_quarter_23 (z : Wd) : ASt := aSeq (t_quarter_3 z) (t_quarter_22 z)
abbrev t_quarter_24 (z : Wd) : ASt := aSeq (t_quarter_2 z) (t_quarter_23 z)
abbrev t_quarter_25 (z : Wd) : ASt := aSeq (t_quarter_1 z) (t_quarter_24 z)
abbrev t_quarter (z : Wd) : ASt := (t_quarter_25 z)
/-! def unquarter -/
abbrev N_unquarter : List Str := ["a", "b", "c", "d"]
abbrev ps_unquarter : List Str := ["a", "b", "c", "d"]
abbrev t_unquarter_1 (z : Wd) : ASt := (aAsg (aOp oOr (aOp oShr (aVar 1) (aC (.int 7))) (aOp oAnd (aOp oShl (aVar 1) (aC (.int 25))) (aC (.int 4294967295)))) (agName 1))
abbrev t_unquarter_2 (z : Wd) : ASt := (aAsg (aOp oXor (aVar 1) (aVar 2)) (agName 1))
abbrev t_unquarter_3 (z : Wd) : ASt := (aAsg (aOp oAnd (aOp oSub (aVar 2) (aVar 3)) (aC (.int 4294967295))) (agName 2))
abbrev t_unquarter_4 (z : Wd) : ASt := (aAsg (aOp oOr (aOp oShr (aVar 3) (aC (.int 8))) (aOp oAnd (aOp oShl (aVar 3) (aC (.int 24))) (aC (.int 4294967295)))) (agName 3))
abbrev t_unquarter_5 (z : Wd) : ASt := (aAsg (aOp oXor (aVar 3) (aVar 0)) (agName 3))
abbrev t_unquarter_6 (z : Wd) : ASt := (aAsg (aOp oAnd (aOp oSub (aVar 0) (aVar 1)) (aC (.int 4294967295))) (agName 0))
abbrev t_unquarter_7 (z : Wd) : ASt := (aAsg (aOp oOr (aOp oShr (aVar 1) (aC (.int 12))) (aOp oAnd (aOp oShl (aVar 1) (aC (.int 20))) (aC (.int 4294967295)))) (agName 1))
abbrev t_unquarter_8 (z : Wd) : ASt := (aAsg (aOp oXor (aVar 1) (aVar 2)) (agName 1))
abbrev t_unquarter_9 (z : Wd) : ASt := (aAsg (aOp oAnd (aOp oSub (aVar 2) (aVar 3)) (aC (.int 4294967295))) (agName 2))
abbrev t_unquarter_10 (z : Wd) : ASt := (aAsg (aOp oOr (aOp oShr (aVar 3) (aC (.int 16))) (aOp oAnd (aOp oShl (aVar 3) (aC (.int 16))) (aC (.int 4294967295)))) (agName 3))
abbrev t_unquarter_11 (z : Wd) : ASt := (aAsg (aOp oXor (aVar 3) (aVar 0)) (agName 3))
abbrev t_unquarter_12 (z : Wd) : ASt := (aAsg (aOp oAnd (aOp oSub (aVar 0) (aVar 1)) (aC (.int 4294967295))) (agName 0))
abbrev t_unquarter_13 (z : Wd) : ASt := (aRet (aTup (aCons (aVar 0) (aCons (aVar 1) (aCons (aVar 2) (aCons (aVar 3) aNil))))))
abbrev t_unquarter_14 (z : Wd) : ASt := aSeq (t_unquarter_12 z) (t_unquarter_13 z)
abbrev t_unquarter_15 (z : Wd) : ASt := aSeq (t_unquarter_11 z) (t_unquarter_14 z)
abbrev t_unquarter_16 (z : Wd) : ASt := aSeq (t_unquarter_10 z) (t_unquarter_15 z)
abbrev t_unquarter_17 (z : Wd) : ASt := aSeq (t_unquarter_9 z) (t_unquarter_16 z)
abbrev t_unquarter_18 (z : Wd) : ASt := aSeq (t_unquarter_8 z) (t_unquarter_17 z)
abbrev t_unquarter_19 (z : Wd) : ASt := aSeq (t_unquarter_7 z) (t_unquarter_18 z)
abbrev t_unquarter_20 (z : Wd) : ASt := aSeq (t_unquarter_6 z) (t_unquarter_19 z)
abbrev t_unquarter_21 (z : Wd) : ASt := aSeq (t_unquarter_5 z) (t_unquarter_20 z)
abbrev t_unquarter_22 (z : Wd) : ASt := aSeq (t_unquarter_4 z) (t_unquarter_21 z)
abbrev t_unquarter_23 (z : Wd) : ASt := aSeq (t_unquarter_3 z) (t_unquarter_22 z)
abbrev t_unquarter_24 (z : Wd) : ASt := aSeq (t_unquarter_2 z) (t_unquarter_23 z)
abbrev t_unquarter_25 (z : Wd) : ASt := aSeq (t_unquarter_1 z) (t_unquarter_24 z)
abbrev t_unquarter (z : Wd) : ASt := (t_unquarter_25 z)
/-! def quarter_at -/
abbrev N_quarter_at : List Str := ["state", "places", "words"]
abbrev ps_quarter_at : List Str := ["state", "places"]
abbrev t_quarter_at_1 (z : Wd) : ASt := (aAsg (aCB cList (aCons (aVar 0) aNil)) (agName 2))
abbrev t_quarter_at_2 (z : Wd) : ASt := (aDrop (aCall (sp_turn z) 2 0 [0, 1] (aCons (aVar 2) (aCons (aTup (aCons (aVar 1) aNil)) aNil)) aNil))
abbrev t_quarter_at_3 (z : Wd) : ASt := (aRet (aCB cTuple (aCons (aVar 2) aNil)))
abbrev t_quarter_at_4 (z : Wd) : ASt := aSeq (t_quarter_at_2 z) (t_quarter_at_3 z)
abbrev t_quarter_at_5 (z : Wd) : ASt := aSeq (t_quarter_at_1 z) (t_quarter_at_4 z)
abbrev t_quarter_at (z : Wd) : ASt := (t_quarter_at_5 z)
/-! def _turn -/
abbrev N_turn : List Str := ["words", "lines", "first", "second", "third", "fourth", "a", "b", "c", "d"]
abbrev ps_turn : List Str := ["words", "lines"]
abbrev t_turn_1 (z : Wd) : ASt := (aAsg (aCall (sp_quarter z) 4 0 [0, 1, 2, 3] (aCons (aOp bIx (aVar 0) (aVar 2)) (aCons (aOp bIx (aVar 0) (aVar 3)) (aCons (aOp bIx (aVar 0) (aVar 4)) (aCons (aOp bIx (aVar 0) (aVar 5)) aNil)))) aNil) (agTup 4 (agCons (agName 6) (agCons (agName 7) (agCons (agName 8) (agCons (agName 9) agNil))))))
abbrev t_turn_2 (z : Wd) : ASt := (aAsg (aVar 6) (agSub (aVar 0) (aVar 2)))
abbrev t_turn_3 (z : Wd) : ASt := (aAsg (aVar 7) (agSub (aVar 0) (aVar 3)))
abbrev t_turn_4 (z : Wd) : ASt := (aAsg (aVar 8) (agSub (aVar 0) (aVar 4)))
abbrev t_turn_5 (z : Wd) : ASt := (aAsg (aVar 9) (agSub (aVar 0) (aVar 5)))
abbrev t_turn_6 (z : Wd) : ASt := aSeq (t_turn_4 z) (t_turn_5 z)
abbrev t_turn_7 (z : Wd) : ASt := aSeq (t_turn_3 z) (t_turn_6 z)
abbrev t_turn_8 (z : Wd) : ASt := aSeq (t_turn_2 z) (t_turn_7 z)
abbrev t_turn_9 (z : Wd) : ASt := aSeq (t_turn_1 z) (t_turn_8 z)
abbrev t_turn_10 (z : Wd) : ASt := (aFor (aWalk (aVar 1)) (agTup 4 (agCons (agName 2) (agCons (agName 3) (agCons (agName 4) (agCons (agName 5) agNil))))) (t_turn_9 z))
abbrev t_turn (z : Wd) : ASt := (t_turn_10 z)
/-! def _turn_back -/
abbrev N_turn_back : List Str := ["words", "lines", "first", "second", "third", "fourth", "a", "b", "c", "d"]
abbrev ps_turn_back : List Str := ["words", "lines"]
abbrev t_turn_back_1 (z : Wd) : ASt := (aAsg (aCall (sp_unquarter z) 4 0 [0, 1, 2, 3] (aCons (aOp bIx (aVar 0) (aVar 2)) (aCons (aOp bIx (aVar 0) (aVar 3)) (aCons (aOp bIx (aVar 0) (aVar 4)) (aCons (aOp bIx (aVar 0) (aVar 5)) aNil)))) aNil) (agTup 4 (agCons (agName 6) (agCons (agName 7) (agCons (agName 8) (agCons (agName 9) agNil))))))
abbrev t_turn_back_2 (z : Wd) : ASt := (aAsg (aVar 6) (agSub (aVar 0) (aVar 2)))
abbrev t_turn_back_3 (z : Wd) : ASt := (aAsg (aVar 7) (agSub (aVar 0) (aVar 3)))
abbrev t_turn_back_4 (z : Wd) : ASt := (aAsg (aVar 8) (agSub (aVar 0) (aVar 4)))
abbrev t_turn_back_5 (z : Wd) : ASt := (aAsg (aVar 9) (agSub (aVar 0) (aVar 5)))
abbrev t_turn_back_6 (z : Wd) : ASt := aSeq (t_turn_back_4 z) (t_turn_back_5 z)
abbrev t_turn_back_7 (z : Wd) : ASt := aSeq (t_turn_back_3 z) (t_turn_back_6 z)
abbrev t_turn_back_8 (z : Wd) : ASt := aSeq (t_turn_back_2 z) (t_turn_back_7 z)
abbrev t_turn_back_9 (z : Wd) : ASt := aSeq (t_turn_back_1 z) (t_turn_back_8 z)
abbrev t_turn_back_10 (z : Wd) : ASt := (aFor (aWalk (aVar 1)) (agTup 4 (agCons (agName 2) (agCons (agName 3) (agCons (agName 4) (agCons (agName 5) agNil))))) (t_turn_back_9 z))
abbrev t_turn_back (z : Wd) : ASt := (t_turn_back_10 z)
/-! def double_round -/
abbrev N_double_round : List Str := ["state"]
abbrev ps_double_round : List Str := ["state"]
abbrev t_double_round_1 (z : Wd) : ASt := (aRet (aCall (sp_double_rounds z) 2 0 [0, 1] (aCons (aVar 0) (aCons (aC (.int 1)) aNil)) aNil))
abbrev t_double_round (z : Wd) : ASt := (t_double_round_1 z)
/-! def double_back -/
abbrev N_double_back : List Str := ["state"]
abbrev ps_double_back : List Str := ["state"]
abbrev t_double_back_1 (z : Wd) : ASt := (aRet (aCall (sp_double_rounds_back z) 2 0 [0, 1] (aCons (aVar 0) (aCons (aC (.int 1)) aNil)) aNil))
abbrev t_double_back (z : Wd) : ASt := (t_double_back_1 z)
/-! def double_rounds -/
abbrev N_double_rounds : List Str := ["state", "many", "words", "_"]
abbrev ps_double_rounds : List Str := ["state", "many"]
abbrev t_double_rounds_1 (z : Wd) : ASt := (aAsg (aCB cList (aCons (aVar 0) aNil)) (agName 2))
abbrev t_double_rounds_2 (z : Wd) : ASt := (aDrop (aCall (sp_turn z) 2 0 [0, 1] (aCons (aVar 2) (aCons (aC (.tup [(tI [0, 4, 8, 12]), (tI [1, 5, 9, 13]), (tI [2, 6, 10, 14]), (tI [3, 7, 11, 15])])) aNil)) aNil))
abbrev t_double_rounds_3 (z : Wd) : ASt := (aDrop (aCall (sp_turn z) 2 0 [0, 1] (aCons (aVar 2) (aCons (aC (.tup [(tI [0, 5, 10, 15]), (tI [1, 6, 11, 12]), (tI [2, 7, 8, 13]), (tI [3, 4, 9, 14])])) aNil)) aNil))
abbrev t_double_rounds_4 (z : Wd) : ASt := aSeq (t_double_rounds_2 z) (t_double_rounds_3 z)
abbrev t_double_rounds_5 (z : Wd) : ASt := (aFor (aRng1 (aCons (aVar 1) aNil)) (agName 3) (t_double_rounds_4 z))
abbrev t_double_rounds_6 (z : Wd) : ASt := (aRet (aCB cTuple (aCons (aVar 2) aNil)))
abbrev t_double_rounds_7 (z : Wd) : ASt := aSeq (t_double_rounds_5 z) (t_double_rounds_6 z)
abbrev t_double_rounds_8 (z : Wd) : ASt := aSeq (t_double_rounds_1 z) (t_double_rounds_7 z)
abbrev t_double_rounds (z : Wd) : ASt := (t_double_rounds_8 z)
/-! def double_rounds_back -/
abbrev N_double_rounds_back : List Str := ["state", "many", "words", "_"]
abbrev ps_double_rounds_back : List Str := ["state", "many"]
abbrev t_double_rounds_back_1 (z : Wd) : ASt := (aAsg (aCB cList (aCons (aVar 0) aNil)) (agName 2))
abbrev t_double_rounds_back_2 (z : Wd) : ASt := (aDrop (aCall (sp_turn_back z) 2 0 [0, 1] (aCons (aVar 2) (aCons (aC (.tup [(tI [0, 5, 10, 15]), (tI [1, 6, 11, 12]), (tI [2, 7, 8, 13]), (tI [3, 4, 9, 14])])) aNil)) aNil))
abbrev t_double_rounds_back_3 (z : Wd) : ASt := (aDrop (aCall (sp_turn_back z) 2 0 [0, 1] (aCons (aVar 2) (aCons (aC (.tup [(tI [0, 4, 8, 12]), (tI [1, 5, 9, 13]), (tI [2, 6, 10, 14]), (tI [3, 7, 11, 15])])) aNil)) aNil))
abbrev t_double_rounds_back_4 (z : Wd) : ASt := aSeq (t_double_rounds_back_2 z) (t_double_rounds_back_3 z)
abbrev t_double_rounds_back_5 (z : Wd) : ASt := (aFor (aRng1 (aCons (aVar 1) aNil)) (agName 3) (t_double_rounds_back_4 z))
abbrev t_double_rounds_back_6 (z : Wd) : ASt := (aRet (aCB cTuple (aCons (aVar 2) aNil)))
abbrev t_double_rounds_back_7 (z : Wd) : ASt := aSeq (t_double_rounds_back_5 z) (t_double_rounds_back_6 z)
abbrev t_double_rounds_back_8 (z : Wd) : ASt := aSeq (t_double_rounds_back_1 z) (t_double_rounds_back_7 z)
abbrev t_double_rounds_back (z : Wd) : ASt := (t_double_rounds_back_8 z)
/-! def rows_turned -/
abbrev N_rows_turned : List Str := ["state", "by", "at"]
abbrev ps_rows_turned : List Str := ["state", "by"]
abbrev t_rows_turned_1 (z : Wd) : ASt := (aRet (aCB cTuple (aCons (aLcF (aRng1 (aCons (aC (.int 16)) aNil)) (agName 2) aYes (aOp bIx (aVar 0) (aOp bAddF (aOp oSub (aVar 2) (aOp oMod (aVar 2) (aC (.int 4)))) (aOp oMod (aOp bAddF (aVar 2) (aVar 1)) (aC (.int 4))))) [2]) aNil)))
abbrev t_rows_turned (z : Wd) : ASt := (t_rows_turned_1 z)
/-! def _law_word -/
abbrev N_law_word : List Str := ["deal", "kind"]
abbrev ps_law_word : List Str := ["deal"]
abbrev t_law_word_1 (z : Wd) : ASt := (aAsg (aCall (sp_law_any z) 2 0 [0, 1] (aCons (aVar 0) (aCons (aC (.int 10)) aNil)) aNil) (agName 1))
abbrev t_law_word_2 (z : Wd) : ASt := (aRet (aOp bIx (aLstF (aCons (aC (.int 0)) (aCons (aC (.int 1)) (aCons (aC (.int 4294967295)) (aCons (aC (.int 2147483648)) aNil))))) (aVar 1)))
abbrev t_law_word_3 (z : Wd) : ASt := (aIf (aTest (aOp oLt (aVar 1) (aC (.int 4)))) (t_law_word_2 z) aNext)
abbrev t_law_word_4 (z : Wd) : ASt := (aRet (aOp bAddF (aOp oMul (aCall (sp_law_any z) 2 0 [0, 1] (aCons (aVar 0) (aCons (aC (.int 65536)) aNil)) aNil) (aC (.int 65536))) (aCall (sp_law_any z) 2 0 [0, 1] (aCons (aVar 0) (aCons (aC (.int 65536)) aNil)) aNil)))
abbrev t_law_word_5 (z : Wd) : ASt := aSeq (t_law_word_3 z) (t_law_word_4 z)
abbrev t_law_word_6 (z : Wd) : ASt := aSeq (t_law_word_1 z) (t_law_word_5 z)
abbrev t_law_word (z : Wd) : ASt := (t_law_word_6 z)
/-! def _law_quarter -/
abbrev N_law_quarter : List Str := ["words", "one", "two", "three", "four", "far", "near", "some"]
abbrev ps_law_quarter : List Str := ["words", "one", "two", "three", "four"]
abbrev t_law_quarter_1 (z : Wd) : ASt := (aAsg (aOp oMod (aCB cInt (aCons (aOp bAddF (aOp bIx (aVar 0) (aVar 1)) (aOp bIx (aVar 0) (aVar 2))) aNil)) (aC (.int 4294967296))) (agSub (aVar 0) (aVar 1)))
abbrev t_law_quarter_2 (z : Wd) : ASt := (aAsg (aOp oMul (aCB cInt (aCons (aOp oXor (aOp bIx (aVar 0) (aVar 4)) (aOp bIx (aVar 0) (aVar 1))) aNil)) (aVar 5)) (agName 7))
abbrev t_law_quarter_3 (z : Wd) : ASt := (aAsg (aOp bAddF (aOp oMod (aVar 7) (aC (.int 4294967296))) (aOp oDiv (aVar 7) (aC (.int 4294967296)))) (agSub (aVar 0) (aVar 4)))
abbrev t_law_quarter_4 (z : Wd) : ASt := (aAsg (aOp oMod (aCB cInt (aCons (aOp bAddF (aOp bIx (aVar 0) (aVar 3)) (aOp bIx (aVar 0) (aVar 4))) aNil)) (aC (.int 4294967296))) (agSub (aVar 0) (aVar 3)))
abbrev t_law_quarter_5 (z : Wd) : ASt := (aAsg (aOp oMul (aCB cInt (aCons (aOp oXor (aOp bIx (aVar 0) (aVar 2)) (aOp bIx (aVar 0) (aVar 3))) aNil)) (aVar 6)) (agName 7))
abbrev t_law_quarter_6 (z : Wd) : ASt := (aAsg (aOp bAddF (aOp oMod (aVar 7) (aC (.int 4294967296))) (aOp oDiv (aVar 7) (aC (.int 4294967296)))) (agSub (aVar 0) (aVar 2)))
abbrev t_law_quarter_7 (z : Wd) : ASt := aSeq (t_law_quarter_5 z) (t_law_quarter_6 z)
abbrev t_law_quarter_8 (z : Wd) : ASt := aSeq (t_law_quarter_4 z) (t_law_quarter_7 z)
abbrev t_law_quarter_9 (z : Wd) : ASt := aSeq (t_law_quarter_3 z) (t_law_quarter_8 z)
abbrev t_law_quarter_10 (z : Wd) : ASt := aSeq (t_law_quarter_2 z) (t_law_quarter_9 z)
abbrev t_law_quarter_11 (z : Wd) : ASt := aSeq (t_law_quarter_1 z) (t_law_quarter_10 z)
abbrev t_law_quarter_12 (z : Wd) : ASt := (aFor (aWalk (aLstF (aCons (aTup (aCons (aC (.int 65536)) (aCons (aC (.int 4096)) aNil))) (aCons (aTup (aCons (aC (.int 256)) (aCons (aC (.int 128)) aNil))) aNil)))) (agTup 2 (agCons (agName 5) (agCons (agName 6) agNil))) (t_law_quarter_11 z))
abbrev t_law_quarter (z : Wd) : ASt := (t_law_quarter_12 z)
/-! def _law_rounds -/
abbrev N_law_rounds : List Str := ["state", "many", "words", "turn", "at"]
abbrev ps_law_rounds : List Str := ["state", "many"]
abbrev t_law_rounds_1 (z : Wd) : ASt := (aAsg (aCB cList (aCons (aVar 0) aNil)) (agName 2))
abbrev t_law_rounds_2 (z : Wd) : ASt := (aDrop (aCall (sp_law_quarter z) 5 0 [0, 1, 2, 3, 4] (aCons (aVar 2) (aCons (aVar 4) (aCons (aOp bAddF (aC (.int 4)) (aVar 4)) (aCons (aOp bAddF (aC (.int 8)) (aVar 4)) (aCons (aOp bAddF (aC (.int 12)) (aVar 4)) aNil))))) aNil))
abbrev t_law_rounds_3 (z : Wd) : ASt := (aFor (aRng1 (aCons (aC (.int 4)) aNil)) (agName 4) (t_law_rounds_2 z))
abbrev t_law_rounds_4 (z : Wd) : ASt := (aDrop (aCall (sp_law_quarter z) 5 0 [0, 1, 2, 3, 4] (aCons (aVar 2) (aCons (aVar 4) (aCons (aOp bAddF (aC (.int 4)) (aOp oMod (aCB cInt (aCons (aOp bAddF (aVar 4) (aC (.int 1))) aNil)) (aC (.int 4)))) (aCons (aOp bAddF (aC (.int 8)) (aOp oMod (aCB cInt (aCons (aOp bAddF (aVar 4) (aC (.int 2))) aNil)) (aC (.int 4)))) (aCons (aOp bAddF (aC (.int 12)) (aOp oMod (aCB cInt (aCons (aOp bAddF (aVar 4) (aC (.int 3))) aNil)) (aC (.int 4)))) aNil))))) aNil))
abbrev t_law_rounds_5 (z : Wd) : ASt := (aFor (aRng1 (aCons (aC (.int 4)) aNil)) (agName 4) (t_law_rounds_4 z))
abbrev t_law_rounds_6 (z : Wd) : ASt := aSeq (t_law_rounds_3 z) (t_law_rounds_5 z)
abbrev t_law_rounds_7 (z : Wd) : ASt := (aFor (aRng1 (aCons (aVar 1) aNil)) (agName 3) (t_law_rounds_6 z))
abbrev t_law_rounds_8 (z : Wd) : ASt := (aRet (aVar 2))
abbrev t_law_rounds_9 (z : Wd) : ASt := aSeq (t_law_rounds_7 z) (t_law_rounds_8 z)
abbrev t_law_rounds_10 (z : Wd) : ASt := aSeq (t_law_rounds_1 z) (t_law_rounds_9 z)
abbrev t_law_rounds (z : Wd) : ASt := (t_law_rounds_10 z)
end Sh
local macro_rules | `(tactic| walk_at "put") => `(tactic| (simp (decide := true) only [HA.putD, ↓reduceIte]; exact rfl))
local macro_rules | `(tactic| walk_at "sz") => `(tactic| first | assumption | exact HA.sz_le (by first | decide | (simp only [List.length_append, List.length_map, List.length_take, List.length_drop, List.length_replicate, List.length_cons, List.length_nil, List.length_reverse, List.length_range, List.length_set]; omega) | omega))
local macro_rules | `(tactic| walk_at "sd") => `(tactic| first | assumption | exact trivial | omega | (simp only [List.length_append, List.length_map, List.length_take, List.length_drop, List.length_replicate, List.length_cons, List.length_nil, List.length_reverse, List.length_range, List.length_set]; omega) | exact HA.MulOk.left (by omega) (by omega) | exact HA.MulOk.right (by omega) (by omega) | exact HA.DivOk.small (by omega) (by omega) | (show (0 : Int) < _; omega) | (show (0 : Int) ≤ _; omega) | (unfold L2.CPow; decide) | exact HA.RngOk.mk (by omega) | exact HA.BigR.mk (by omega) (by omega) (by omega) (by omega) | exact ⟨HA.RngOk.mk (by omega), HA.RngOk.mk (by omega)⟩ | (walk_at "deal"; done) | (walk_at "mem"; done))
local macro_rules | `(tactic| walk_at "mle") => `(tactic| first | exact HA.MLe.refl _ | assumption | exact HA.MLe.new (by assumption) | (refine HA.MLe.new2 (by assumption) ?_; walk_at "mle") | (refine HA.MLe.newM (by assumption) ?_; walk_at "mle"))
local macro_rules | `(tactic| walk_at "mem") => `(tactic| first | assumption | exact HA.mset_same | (refine HA.mset_old (by assumption) ?_; walk_at "mem") | (rw [HA.mset_ne (by first | assumption | (apply Ne.symm; assumption) | solve_by_elim only [HA.ne_sn, Ne.symm, *])]; walk_at "mem"))
local macro_rules | `(tactic| walk_at "set") => `(tactic| (simp only [HA.wipeA, List.set_cons_zero, List.set_cons_succ]; exact rfl))
local macro_rules | `(tactic| walk_at "pk") => `(tactic| (simp only [HA.pick_cons, HA.pick_nil, List.cons_append, List.nil_append, List.append_nil, List.getElem?_cons_zero, List.getElem?_cons_succ, Option.toList]; exact rfl))
local macro_rules | `(tactic| walk_at "cut") => `(tactic| try simp (disch := omega) only [HA.cut_ij, HA.cut_i, HA.cut_j, HA.cut_ni, HA.cut_nj, HA.tn_ac, Int.toNat_natCast, Int.reduceToNat])
local macro_rules | `(tactic| walk_at "mm") => `(tactic| try rw [HA.mset_mset])
local macro_rules | `(tactic| walk_at "fold") => `(tactic| try simp only [HA.f0, HA.f1, HA.f2, HA.f3, HA.f4, HA.f5, HA.f6, HA.g6, HA.f7, HA.g7, HA.f8, HA.g8, HA.f9, HA.g9, HA.f10, HA.g10, HA.f11, HA.g11, HA.f12, HA.g12, HA.f13, HA.g13, HA.f14, HA.g14, HA.f15, HA.g15, HA.f16, HA.g16, HA.g0, HA.g1, HA.g2, HA.g3, HA.g4, HA.g5])
local macro_rules | `(tactic| walk_at "call") => `(tactic| fail)
local macro_rules | `(tactic| walk_at "pre") => `(tactic| fail)
local macro_rules | `(tactic| walk_at "s") => `(tactic| first
  | with_reducible refine HA.i_seq ?_ | walk_at "pre" | with_reducible refine HA.i_asg ?_ | ((fail_if_success (fail_if_success (with_reducible refine' HA.i_var ..))); (with_reducible apply HA.i_var); exact rfl) | with_reducible refine HA.i_c ?_ | with_reducible refine HA.i_op ?_
  | ((fail_if_success (fail_if_success (with_reducible refine' HA.i_name ..))); (with_reducible apply HA.i_name); walk_at "set") | with_reducible refine HA.i_nx ?_ | with_reducible refine HA.i_ret ?_ | with_reducible refine HA.i_if ?_ | with_reducible refine HA.i_test ?_ | with_reducible refine HA.i_onBl ?_
  | with_reducible refine HA.i_cons ?_ | with_reducible refine HA.i_nil ?_ | with_reducible refine HA.i_call ?_ | with_reducible refine HA.i_callD ?_ | ((fail_if_success (fail_if_success (with_reducible refine' HA.i_clD ..))); (with_reducible apply HA.i_clD); exact rfl; exact rfl; walk_at "pk") | ((fail_if_success (fail_if_success (with_reducible refine' HA.i_cl ..))); (with_reducible apply HA.i_cl); exact rfl; exact rfl; walk_at "pk") | walk_at "call"
  | with_reducible refine HA.i_tup ?_ | with_reducible refine HA.i_lstF ?_ | with_reducible refine HA.i_lst ?_ | ((((with_reducible refine HA.i_sz ?_ ?_); (focus (walk_at "sz"; done)))); walk_at "fold")
  | with_reducible refine HA.i_bI0 ?_ | ((with_reducible refine HA.i_bI ?_ ?_); (focus (walk_at "sd"; done))) | with_reducible refine HA.i_bC ?_ | ((with_reducible refine HA.i_mulO ?_ ?_); (focus (walk_at "sd"; done)))
  | ((with_reducible refine HA.i_mul2I ?_ ?_); (focus (walk_at "sd"; done))) | with_reducible refine HA.i_addI ?_ | ((with_reducible refine HA.i_addtI ?_ ?_); (focus (walk_at "sz"; done))) | ((with_reducible refine HA.i_addlI ?_ ?_); (focus (walk_at "sz"; done))) | ((with_reducible refine HA.i_addt ?_ ?_); (focus (walk_at "sz"; done))) | ((with_reducible refine HA.i_addl ?_ ?_); (focus (walk_at "sz"; done))) | ((with_reducible refine HA.i_baddl ?_ ?_); (focus (walk_at "sz"; done))) | ((fail_if_success (fail_if_success (with_reducible refine' HA.i_addrI ..))); (with_reducible apply HA.i_addrI); (focus (walk_at "mem"; done)); (focus (walk_at "sz"; done))) | ((fail_if_success (fail_if_success (with_reducible refine' HA.i_addr ..))); (with_reducible apply HA.i_addr); (focus (walk_at "mem"; done)); (focus (walk_at "sz"; done)))
  | with_reducible refine HA.i_cb ?_ | with_reducible refine HA.i_lentI ?_ | with_reducible refine HA.i_lenlI ?_ | with_reducible refine HA.i_lent ?_ | with_reducible refine HA.i_lenl ?_ | ((fail_if_success (fail_if_success (with_reducible refine' HA.i_lenr ..))); (with_reducible apply HA.i_lenr); (focus (walk_at "mem"; done))) | with_reducible refine HA.i_int ?_
  | with_reducible refine HA.i_tuplelI ?_ | with_reducible refine HA.i_tuplel ?_ | ((fail_if_success (fail_if_success (with_reducible refine' HA.i_tuplerI ..))); (with_reducible apply HA.i_tuplerI); (focus (walk_at "mem"; done))) | ((fail_if_success (fail_if_success (with_reducible refine' HA.i_tupler ..))); (with_reducible apply HA.i_tupler); (focus (walk_at "mem"; done))) | with_reducible refine HA.i_tupletI ?_ | with_reducible refine HA.i_tuplet ?_
  | with_reducible refine HA.i_lscI ?_ | with_reducible refine HA.i_lsclI ?_ | with_reducible refine HA.i_lsc ?_ | with_reducible refine HA.i_lscl ?_ | with_reducible refine HA.i_sortI ?_ | with_reducible refine HA.s_sumt ?_ | with_reducible refine HA.s_suml ?_ | with_reducible refine HA.s_summ ?_ | ((fail_if_success (fail_if_success (with_reducible refine' HA.s_sumr ..))); (with_reducible apply HA.s_sumr); (focus (walk_at "mem"; done))) | with_reducible refine HA.i_sumI ?_ | with_reducible refine HA.i_sortM ?_ | with_reducible refine HA.i_sumM ?_ | with_reducible refine HA.i_allB ?_ | with_reducible refine HA.i_listFI ?_ | with_reducible refine HA.i_listF ?_ | with_reducible refine HA.i_listFl ?_ | with_reducible refine HA.i_listFlI ?_ | with_reducible refine HA.i_c2I ?_ | with_reducible refine HA.i_c1I ?_
  | with_reducible refine HA.i_slF ?_ | with_reducible refine HA.i_noPart ?_ | with_reducible refine HA.i_part ?_ | with_reducible refine HA.i_ptI ?_ | ((with_reducible refine HA.i_sltI ?_); walk_at "cut") | ((with_reducible refine HA.i_sllI ?_); walk_at "cut") | ((with_reducible refine HA.i_slt ?_); walk_at "cut") | ((with_reducible refine HA.i_sll ?_); walk_at "cut") | ((fail_if_success (fail_if_success (with_reducible refine' HA.i_slrI ..))); (with_reducible apply HA.i_slrI); (focus (walk_at "mem"; done)); walk_at "cut") | ((fail_if_success (fail_if_success (with_reducible refine' HA.i_slr ..))); (with_reducible apply HA.i_slr); (focus (walk_at "mem"; done)); walk_at "cut") | ((with_reducible apply HA.i_lam); (focus (first | assumption | (exact HA.TabM.up (by assumption) (by walk_at "mle")))); (intro _ _)) | ((with_reducible apply HA.i_act); (focus (exact rfl)))
  | with_reducible refine HA.i_raise ?_ | with_reducible refine HA.i_tryAs ?_ | with_reducible refine HA.i_tryOnly ?_ | (((with_reducible refine HA.i_xT ?_ ?_); (focus (assumption; done))); (intro _ _); (try simp only [List.set_cons_zero, List.set_cons_succ])) | ((with_reducible refine HA.i_xF ?_ ?_); (focus (assumption; done))) | ((fail_if_success (fail_if_success (with_reducible refine' HA.i_exF ..))); (with_reducible apply HA.i_exF); (focus (assumption; done)); (focus (exact rfl))) | with_reducible refine HA.i_reflref ?_ | with_reducible refine HA.i_isE ?_ | ((fail_if_success (fail_if_success (with_reducible refine' HA.i_isEK ..))); (with_reducible apply HA.i_isEK); (focus (assumption; done)); (focus (assumption; done))) | ((with_reducible refine HA.i_fznx ?_ ?_); (focus (walk_at "mle"; done))) | with_reducible refine HA.i_drop ?_ | with_reducible refine HA.i_retN ?_ | with_reducible refine HA.i_brk ?_ | with_reducible refine HA.i_cont ?_ | with_reducible refine HA.i_forQ ?_ | with_reducible refine HA.i_lcQ ?_
  | with_reducible refine HA.i_inL ?_ | with_reducible refine HA.i_ninL ?_ | with_reducible refine HA.i_inT ?_ | with_reducible refine HA.i_ninT ?_ | ((fail_if_success (fail_if_success (with_reducible refine' HA.i_inR ..))); (with_reducible apply HA.i_inR); (focus (walk_at "mem"; done))) | ((fail_if_success (fail_if_success (with_reducible refine' HA.i_ninR ..))); (with_reducible apply HA.i_ninR); (focus (walk_at "mem"; done)))
  | ((with_reducible refine HA.i_rep1I ?_ ?_); (focus (constructor <;> omega))) | ((with_reducible refine HA.i_rep1 ?_ ?_); (focus (constructor <;> omega)))
  | with_reducible refine HA.i_lr ?_ | ((with_reducible refine HA.i_lrK ?_ ?_); (focus (constructor <;> omega)))
  | with_reducible refine HA.i_lenSet ?_ | with_reducible refine HA.i_rngV ?_ | with_reducible refine HA.i_wkR ?_ | ((fail_if_success (fail_if_success (with_reducible refine' HA.i_wkRK ..))); (with_reducible apply HA.i_wkRK); (focus (walk_at "mem"; done)); (focus (walk_at "sd"; done))) | with_reducible refine HA.i_rg2B ?_ | ((with_reducible refine HA.i_rk2B ?_ ?_); (focus (walk_at "sd"; done)))
  | with_reducible refine HA.i_rg1 ?_ | with_reducible refine HA.i_rg2 ?_ | with_reducible refine HA.i_rg3 ?_ | ((with_reducible refine HA.i_rk1 ?_ ?_); (focus (walk_at "sd"; done))) | ((with_reducible refine HA.i_rk2 ?_ ?_); (focus (walk_at "sd"; done)))
  | with_reducible refine HA.i_walk ?_ | with_reducible refine HA.i_wktI ?_ | with_reducible refine HA.i_wklI ?_ | with_reducible refine HA.i_wkt ?_ | with_reducible refine HA.i_wkl ?_ | ((fail_if_success (fail_if_success (with_reducible refine' HA.i_wkr ..))); (with_reducible apply HA.i_wkr); (focus (walk_at "mem"; done)))
  | with_reducible refine HA.i_enumT ?_ | with_reducible refine HA.i_entI ?_ | with_reducible refine HA.i_ent ?_ | with_reducible refine HA.i_zip ?_ | with_reducible refine HA.i_zptI ?_ | with_reducible refine HA.i_zpt ?_
  | ((fail_if_success (fail_if_success (with_reducible refine' HA.i_extI ..))); (with_reducible apply HA.i_extI); (focus (walk_at "mem"; done)); (focus (walk_at "sz"; done)); walk_at "mm") | ((fail_if_success (fail_if_success (with_reducible refine' HA.i_exlI ..))); (with_reducible apply HA.i_exlI); (focus (walk_at "mem"; done)); (focus (walk_at "sz"; done)); walk_at "mm") | ((fail_if_success (fail_if_success (with_reducible refine' HA.i_ext ..))); (with_reducible apply HA.i_ext); (focus (walk_at "mem"; done)); (focus (walk_at "sz"; done)); walk_at "mm")
  | with_reducible refine HA.i_rev ?_ | with_reducible refine HA.i_rvtI ?_ | with_reducible refine HA.i_rvlI ?_ | with_reducible refine HA.i_rvt ?_ | with_reducible refine HA.i_rvl ?_
  | with_reducible refine HA.i_par ?_ | ((fail_if_success (fail_if_success (with_reducible refine' HA.i_parK ..))); (with_reducible apply HA.i_parK); walk_at "set") | with_reducible refine HA.i_par3 ?_ | ((fail_if_success (fail_if_success (with_reducible refine' HA.i_par3K ..))); (with_reducible apply HA.i_par3K); walk_at "set") | ((fail_if_success (fail_if_success (with_reducible refine' HA.i_aug ..))); (with_reducible apply HA.i_aug); exact rfl) | with_reducible refine HA.i_IaddI ?_ | ((with_reducible refine HA.i_iaddt ?_ ?_); (focus (walk_at "sz"; done)))
  | with_reducible refine HA.i_gtup rfl ?_ | with_reducible refine HA.i_gtupI rfl ?_ | with_reducible refine HA.i_gtupL rfl ?_ | with_reducible refine HA.i_gcons ?_ | with_reducible refine HA.i_gnil ?_ | with_reducible refine HA.i_gcI ?_ | with_reducible refine HA.i_gnI ?_ | with_reducible refine HA.i_gsub ?_
  | ((fail_if_success (fail_if_success (with_reducible refine' HA.i_ixtI ..))); (with_reducible apply HA.i_ixtI); exact rfl) | ((fail_if_success (fail_if_success (with_reducible refine' HA.i_ixt ..))); (with_reducible apply HA.i_ixt); exact rfl) | ((fail_if_success (fail_if_success (with_reducible refine' HA.i_ixlI ..))); (with_reducible apply HA.i_ixlI); exact rfl) | ((fail_if_success (fail_if_success (with_reducible refine' HA.i_ixl ..))); (with_reducible apply HA.i_ixl); exact rfl) | ((fail_if_success (fail_if_success (with_reducible refine' HA.i_ixr ..))); (with_reducible apply HA.i_ixr); (focus (walk_at "mem"; done)); (focus (exact rfl)))
  | with_reducible refine HA.e_S0 ?_ | with_reducible refine HA.e_S1 ?_ | with_reducible refine HA.e_I0 ?_ | with_reducible refine HA.e_I1 ?_ | with_reducible refine HA.e_t0 ?_ | with_reducible refine HA.e_t1 ?_ | with_reducible refine HA.e_l0 ?_ | with_reducible refine HA.e_l1 ?_
  | with_reducible refine HA.i_ltA ?_ | with_reducible refine HA.i_eqI ?_ | with_reducible refine HA.i_eqtI ?_ | with_reducible refine HA.i_eqlI ?_ | with_reducible refine HA.i_eqS ?_ | with_reducible refine HA.i_eqB ?_ | ((fail_if_success (fail_if_success (with_reducible refine' HA.i_isiT ..))); (with_reducible apply HA.i_isiT); (focus (exact rfl)); (focus (decide; done)); (focus (decide; done))) | ((fail_if_success (fail_if_success (with_reducible refine' HA.i_isiF ..))); (with_reducible apply HA.i_isiF); (focus (exact rfl)); (focus (decide; done)); (focus (decide; done))) | ((fail_if_success (fail_if_success (with_reducible refine' HA.i_popat ..))); (with_reducible apply HA.i_popat); (focus (walk_at "mem"; done)); (focus (walk_at "sd"; done)); (focus (walk_at "sd"; done)); (focus (walk_at "sd"; done)); walk_at "mm") | ((fail_if_success (fail_if_success (with_reducible show HA.cRepr _ _ _))); (with_reducible apply HA.i_repr); (focus (walk_at "pw"; done)); (focus (walk_at "pn"; done)); (focus (walk_at "pn"; done))) | ((fail_if_success (fail_if_success (with_reducible show HA.bEq _ _ _ _ _))); (with_reducible apply HA.e_T0); (focus (walk_at "pw"; done)); (focus (walk_at "pn"; done))) | ((fail_if_success (fail_if_success (with_reducible show HA.bEq _ _ _ _ _))); (with_reducible apply HA.e_T1); (focus (walk_at "pw"; done)); (focus (walk_at "pn"; done))) | ((fail_if_success (fail_if_success (with_reducible show HA.bEq _ _ _ _ _))); (with_reducible apply HA.e_L0); (focus (walk_at "pw"; done)); (focus (walk_at "pn"; done))) | ((fail_if_success (fail_if_success (with_reducible show HA.bEq _ _ _ _ _))); (with_reducible apply HA.e_L1); (focus (walk_at "pw"; done)); (focus (walk_at "pn"; done))) | ((fail_if_success (fail_if_success (with_reducible show HA.bEq _ _ _ _ _))); (with_reducible apply HA.i_eqPt); (focus (walk_at "pw"; done)); (focus (walk_at "pw"; done)); (focus (walk_at "pn"; done)); (focus (walk_at "pn"; done))) | ((fail_if_success (fail_if_success (with_reducible show HA.bEq _ _ _ _ _))); (with_reducible apply HA.i_eqPl); (focus (walk_at "pw"; done)); (focus (walk_at "pw"; done)); (focus (walk_at "pn"; done)); (focus (walk_at "pn"; done))) | ((fail_if_success (fail_if_success (with_reducible show HA.bEq _ _ _ _ _))); (with_reducible apply HA.i_eqPr); (focus (walk_at "pw"; done)); (focus (walk_at "pw"; done)); (focus (walk_at "pn"; done)); (focus (walk_at "pn"; done))) | with_reducible refine HA.br_tt ?_ | with_reducible refine HA.br_tf ?_ | with_reducible refine HA.br_nt ?_ | with_reducible refine HA.br_nf ?_ | with_reducible refine HA.br_fT ?_ | with_reducible refine HA.br_tT ?_ | with_reducible refine HA.br_FT ?_ | with_reducible refine HA.br_TF ?_ | with_reducible refine HA.br_x0 ?_ | with_reducible refine HA.br_x1 ?_ | with_reducible refine HA.br_x2 ?_ | with_reducible refine HA.br_x3 ?_ | with_reducible refine HA.br_x4 ?_ | with_reducible refine HA.br_x5 ?_ | with_reducible refine HA.i_eqN ?_ | with_reducible refine HA.i_isBt ?_ | with_reducible refine HA.i_isBf ?_ | with_reducible refine HA.i_isNn ?_ | ((with_reducible refine HA.i_isNx ?_ ?_); (focus (exact rfl))) | with_reducible refine HA.i_isN ?_
  | with_reducible refine HA.br_ne ?_ | with_reducible refine HA.br_eq ?_ | with_reducible refine HA.br_true ?_ | with_reducible refine HA.br_false ?_
  | ((refine HA.brT ?_ ?_); (focus (walk_at "dec"; done))) | ((refine HA.brF ?_ ?_); (focus (walk_at "dec"; done)))
  | with_reducible refine HA.i_truth ?_ | with_reducible refine HA.i_tru_bl ?_ | with_reducible refine HA.i_tru_int ?_ | with_reducible refine HA.i_tru_tI ?_ | with_reducible refine HA.i_tru_tup ?_ | with_reducible refine HA.i_tru_lst ?_ | with_reducible refine HA.i_tru_non ?_
  | with_reducible refine HA.i_notT ?_ | with_reducible refine HA.i_andT ?_ | with_reducible refine HA.i_orT ?_ | with_reducible refine HA.i_yes ?_ | with_reducible refine HA.i_andV ?_ | with_reducible refine HA.i_orV ?_ | with_reducible refine HA.i_notV ?_ | with_reducible refine HA.i_ifE ?_ | with_reducible refine HA.i_neg ?_ | with_reducible refine HA.i_ngI ?_ | with_reducible refine HA.i_chain ?_
  | with_reducible refine HA.i_mt0 ?_ | with_reducible refine HA.i_mt ?_ | ((fail_if_success (fail_if_success (with_reducible refine' HA.i_isl ..))); (with_reducible apply HA.i_isl); (focus (walk_at "mem"; done))) | ((fail_if_success (fail_if_success (with_reducible refine' HA.i_append ..))); (with_reducible apply HA.i_append); (focus (walk_at "mem"; done)); (focus (walk_at "sz"; done)); walk_at "mm")
  | ((fail_if_success (fail_if_success (with_reducible refine' HA.i_fget ..))); (with_reducible apply HA.i_fget); (focus (walk_at "mem"; done)); (focus (first | assumption | exact (HA.ClsOk.cls (by assumption)))); (focus (first | assumption | exact (HA.ClsOk.na (by assumption) _ (by simp)))); (focus (exact rfl)))
  | ((fail_if_success (fail_if_success (with_reducible refine' HA.i_fset ..))); (with_reducible apply HA.i_fset); (focus (walk_at "mem"; done)); (focus (first | assumption | exact (HA.ClsOk.cls (by assumption)))); (focus (first | assumption | exact (HA.ClsOk.na (by assumption) _ (by simp)))); (focus (first | decide | (simp; done))); (focus (walk_at "put"; done)); walk_at "mm")
  | with_reducible refine HA.i_make ?_ | (((with_reducible refine HA.i_mk ?_ ?_ ?_); (focus (exact rfl)); (focus (exact rfl))); (intro _ _); ((fail_if_success (fail_if_success (with_reducible refine' HA.i_pk ..))); (with_reducible apply HA.i_pk); (focus (walk_at "pk")))) | with_reducible refine HA.i_non ?_ | with_reducible refine HA.i_tt ?_ | with_reducible refine HA.i_meth ?_ | with_reducible refine HA.i_methK ?_ | ((fail_if_success (fail_if_success (with_reducible refine' HA.i_mtK ..))); (with_reducible apply HA.i_mtK); (focus (walk_at "mem"; done)); (focus (exact rfl))) | ((fail_if_success (fail_if_success (with_reducible refine' HA.i_mtKK ..))); (with_reducible apply HA.i_mtKK); (focus (walk_at "mem"; done)); (focus (exact rfl)))
  | ((fail_if_success (fail_if_success (with_reducible refine' HA.i_ml ..))); (with_reducible apply HA.i_ml); (focus (exact rfl)); (focus (walk_at "pk"))) | ((fail_if_success (fail_if_success (with_reducible refine' HA.i_mlK ..))); (with_reducible apply HA.i_mlK); (focus (exact rfl)); (focus (walk_at "pk")))
  | with_reducible refine HA.i_fldAug ?_ | ((fail_if_success (fail_if_success (with_reducible refine' HA.i_augK ..))); (with_reducible apply HA.i_augK); (focus (walk_at "mem"; done)); (focus (first | assumption | exact (HA.ClsOk.cls (by assumption)))); (focus (first | assumption | exact (HA.ClsOk.na (by assumption) _ (by simp)))); (focus (exact rfl)))
  | ((fail_if_success (fail_if_success (with_reducible refine' HA.i_augE ..))); (with_reducible apply HA.i_augE); (focus (walk_at "mem"; done)); (focus (first | decide | (simp; done))); (focus (walk_at "put"; done)); walk_at "mm")
  | with_reducible refine HA.i_fld ?_ | with_reducible refine HA.i_fldS ?_ | with_reducible refine HA.i_agf ?_
  | ((with_reducible refine HA.i_fzI ?_ ?_); (focus (walk_at "mle"; done))) | ((with_reducible refine HA.i_fzB ?_ ?_); (focus (walk_at "mle"; done))) | ((with_reducible refine HA.i_fzS ?_ ?_); (focus (walk_at "mle"; done))) | ((with_reducible refine HA.i_fzN ?_ ?_); (focus (walk_at "mle"; done))) | ((with_reducible refine HA.i_fztI ?_ ?_); (focus (walk_at "mle"; done))) | ((with_reducible refine HA.i_fzlI ?_ ?_); (focus (walk_at "mle"; done))) | ((with_reducible refine HA.i_fzt ?_ ?_); (focus (walk_at "mle"; done))) | ((with_reducible refine HA.i_fzl ?_ ?_); (focus (walk_at "mle"; done)))
  | ((fail_if_success (fail_if_success (with_reducible refine' HA.i_fzr ..))); (with_reducible apply HA.i_fzr); (focus (walk_at "mle"; done)); (focus (assumption; done)); (focus (walk_at "mem"; done)))
  | ((with_reducible refine HA.c_any ?_ ?_ ?_); (focus (walk_at "deal"; done)); (focus (walk_at "dr"; done))) | ((with_reducible refine HA.c_oflI ?_ ?_ ?_ ?_); (focus (walk_at "deal"; done)); (focus (simp; done)); (focus (simp; done))) | ((with_reducible refine HA.c_oftI ?_ ?_ ?_ ?_); (focus (walk_at "deal"; done)); (focus (simp; done)); (focus (simp; done))) | ((with_reducible refine HA.c_ofl ?_ ?_ ?_ ?_); (focus (walk_at "deal"; done)); (focus (simp; done)); (focus (simp; done))) | ((with_reducible refine HA.c_oft ?_ ?_ ?_ ?_); (focus (walk_at "deal"; done)); (focus (simp; done)); (focus (simp; done))))
local macro_rules | `(tactic| walk_at "oct") => `(tactic| first | with_reducible assumption | ((with_reducible apply HA.Oct.app) <;> walk_at "oct") | ((with_reducible apply HA.Oct.take); walk_at "oct") | ((with_reducible apply HA.Oct.drop); walk_at "oct"))
local macro_rules | `(tactic| walk_at "small") => `(tactic| first | with_reducible assumption | (apply HA.Oct.small; walk_at "oct") | (apply HA.Oct.small; unfold HA.Oct; decide))
local macro_rules | `(tactic| walk_at "sm") => `(tactic| first | with_reducible assumption | exact HA.sm64 (by omega) | exact HA.sm64 (by simp only [List.length_append, List.length_map, List.length_take, List.length_drop, List.length_replicate, List.length_cons, List.length_nil, List.length_reverse, List.length_range, List.length_set]; omega) | exact HA.smN 256 (by omega) (by decide))
local macro_rules | `(tactic| walk_at "lay") => `(tactic| first | assumption | decide | decide +kernel)
local macro_rules | `(tactic| walk_at "pw") => `(tactic| first | with_reducible assumption | ((with_reducible apply HA.pw_tI); focus (walk_at "small"; done)) | ((with_reducible apply HA.pw_lI); focus (walk_at "small"; done)) | ((with_reducible apply HA.pw_int); focus (walk_at "sm"; done)) | with_reducible exact HA.pw_bl | with_reducible exact HA.pw_non | ((with_reducible apply HA.pw_str); (focus (walk_at "lay"; done)); (focus (walk_at "lay"; done))) | ((with_reducible apply HA.pw_tup); (focus (walk_at "pwl"; done))) | ((with_reducible apply HA.pw_lst); (focus (walk_at "pwl"; done))) | ((with_reducible apply HA.pw_ref); (focus (walk_at "mem"; done)); (focus (walk_at "pwl"; done))))
local macro_rules | `(tactic| walk_at "pwl") => `(tactic| first | with_reducible assumption | with_reducible exact HA.pwl_nil | ((with_reducible apply HA.pwl_cons); (focus (walk_at "pw"; done)); (focus (walk_at "pwl"; done))))
local macro_rules | `(tactic| walk_at "pn") => `(tactic| first | decide | (simp only [List.length_append, List.length_map, List.length_take, List.length_drop, List.length_replicate, List.length_cons, List.length_nil, List.length_reverse, List.length_range, List.length_set]; omega) | omega)
local macro_rules | `(tactic| walk_at "dec") => `(tactic| first | assumption | omega)
local macro_rules | `(tactic| walk_at "deal") => `(tactic| first | assumption | (exact HA.Deal.up (by assumption) (by assumption)) | (refine HA.Deal.new ?_ (by assumption); walk_at "deal") | (refine HA.Deal.ins ?_ (by focus (walk_at "mem"; done)); walk_at "deal") | (refine HA.Deal.lst ?_ (by focus (walk_at "mem"; done)); walk_at "deal"))
local macro_rules | `(tactic| walk_at "dr") => `(tactic| first | exact HA.dr_ok (by omega) (by omega) | (simp only [List.length_append, List.length_map, List.length_take, List.length_drop, List.length_replicate, List.length_cons, List.length_nil, List.length_reverse, List.length_range, List.length_set]; exact HA.dr_ok (by omega) (by omega)))
local macro_rules | `(tactic| walk_at "r") => `(tactic| (repeat walk_at "s"))
local macro_rules | `(tactic| walk_at "start") => `(tactic| (simp only [HA.startA, List.map_cons, List.map_nil, List.length_cons, List.length_nil, Nat.reduceAdd, Nat.reduceSub, List.reduceReplicate, List.cons_append, List.nil_append, List.append_nil, HA.pureE, HA.anyE]))
local macro_rules | `(tactic| walk_at "nsd") => `(tactic| first | with_reducible assumption | omega | exact ⟨by omega, by omega⟩ | decide | exact HA.MulOk.left (by omega) (by omega) | exact HA.MulOk.right (by omega) (by omega) | exact HA.MulOk.nat (by omega) (by omega))
local macro_rules | `(tactic| walk_at "nw") => `(tactic| first
  | with_reducible refine HA.n_addcc ?_ | with_reducible refine HA.n_addcl ?_ | with_reducible refine HA.n_addlc ?_
  | with_reducible refine HA.n_shrcl ?_ | with_reducible refine HA.n_shrcc ?_ | ((with_reducible refine HA.n_shlcl ?_ ?_); (focus (walk_at "nsd"; done))) | ((with_reducible refine HA.n_shlcc ?_ ?_); (focus (walk_at "nsd"; done)))
  | with_reducible refine HA.n_m32n ?_ | with_reducible refine HA.n_m32 ?_ | with_reducible refine HA.n_andcc ?_ | with_reducible refine HA.n_andcl ?_ | with_reducible refine HA.n_orcc ?_ | with_reducible refine HA.n_orcl ?_ | with_reducible refine HA.n_xorcc ?_ | with_reducible refine HA.n_xorcl ?_
  | ((with_reducible refine HA.n_mulcc ?_ ?_); (focus (walk_at "nsd"; done))) | ((with_reducible refine HA.n_mulcl ?_ ?_); (focus (walk_at "nsd"; done))) | ((with_reducible refine HA.n_mullc ?_ ?_); (focus (walk_at "nsd"; done)))
  | ((with_reducible refine HA.n_modcl ?_ ?_); (focus (walk_at "nsd"; done))) | ((with_reducible refine HA.n_modcc ?_ ?_); (focus (walk_at "nsd"; done))) | ((with_reducible refine HA.n_divcl ?_ ?_); (focus (walk_at "nsd"; done))) | ((with_reducible refine HA.n_divcc ?_ ?_); (focus (walk_at "nsd"; done)))
  | ((with_reducible refine HA.n_subcl ?_ ?_); (focus (walk_at "nsd"; done))) | ((with_reducible refine HA.n_subcc ?_ ?_); (focus (walk_at "nsd"; done))) | ((with_reducible refine HA.n_sublc ?_ ?_); (focus (walk_at "nsd"; done))))
namespace Sh
open PySem PySem.Spec L2 HA PyProof.Rows
/-! rules for words -/
section
variable {M : Mem} {Q : DK} {E : AXs} {σ : AS} {i : Nat} {a b d : Nat}
theorem w_add (h : Q (.int ((a + b) % 2 ^ 32 : Nat)) M) : oAnd (.int ((a : Int) + b)) (.int 4294967295) M Q := by
  show Q (.int (Builtin.bitAnd ((a : Int) + b) 4294967295)) M
  rw [add_word]; exact h
theorem w_sub (hb : b < 2 ^ 32) (h : Q (.int (sub32 a b : Nat)) M) : oAnd (.int ((a : Int) - b)) (.int 4294967295) M Q := by
  show Q (.int (Builtin.bitAnd ((a : Int) - b) 4294967295)) M
  rw [sub_word hb]; exact h
theorem w_xor (h : Q (.int (a ^^^ b : Nat)) M) : oXor (.int (a : Int)) (.int (b : Int)) M Q := by
  show Q (.int (Builtin.bitXor (a : Int) b)) M
  rw [xorN]; exact h
theorem w_mod (h : Q (.int ((a + b) % 2 ^ 32 : Nat)) M) : oMod (.int ((a : Int) + b)) (.int 4294967296) M Q := by
  refine i_bI (show (0 : Int) < 4294967296 by decide) ?_
  have : ((a : Int) + b) % 4294967296 = ((a + b) % 2 ^ 32 : Nat) := by omega
  rw [this]; exact h
theorem shl_k {k : Nat} (h : d < 2 ^ 32) (hk : k ≤ 32) : HA.ShlOk (d : Int) (k : Int) := ShlOk.of (n := 32) (by omega) (by simpa using h) (by omega)
theorem w_rot {k : Nat} (hv : σ[i]? = some (some (.int (d : Int)))) (hd : d < 2 ^ 32) (hk : k ≤ 32) (h : Q (.int (rotl d k : Nat)) M) :
    aOp oOr (aOp oAnd (aOp oShl (aVar i) (aC (.int (k : Int)))) (aC (.int 4294967295))) (aOp oShr (aVar i) (aC (.int ((32 - k : Nat) : Int)))) σ M Q E := by
  refine i_op (i_op (i_op (i_var hv (i_c (i_bI (shl_k hd hk) (i_c (i_bI0 (i_op (i_var hv (i_c (i_bI (show (0 : Int) ≤ ((32 - k : Nat) : Int) by omega) (i_bI0 ?_))))))))))))
  rw [Int.toNat_natCast, Int.toNat_natCast, rot_prog hd hk]; exact h
theorem w_rot16 (hv : σ[i]? = some (some (.int (d : Int)))) (hd : d < 2 ^ 32) (h : Q (.int (rotl d 16 : Nat)) M) : aOp oOr (aOp oAnd (aOp oShl (aVar i) (aC (.int 16))) (aC (.int 4294967295))) (aOp oShr (aVar i) (aC (.int 16))) σ M Q E := w_rot (k := 16) hv hd (by decide) h
theorem w_rot12 (hv : σ[i]? = some (some (.int (d : Int)))) (hd : d < 2 ^ 32) (h : Q (.int (rotl d 12 : Nat)) M) : aOp oOr (aOp oAnd (aOp oShl (aVar i) (aC (.int 12))) (aC (.int 4294967295))) (aOp oShr (aVar i) (aC (.int 20))) σ M Q E := w_rot (k := 12) hv hd (by decide) h
theorem w_rot8 (hv : σ[i]? = some (some (.int (d : Int)))) (hd : d < 2 ^ 32) (h : Q (.int (rotl d 8 : Nat)) M) : aOp oOr (aOp oAnd (aOp oShl (aVar i) (aC (.int 8))) (aC (.int 4294967295))) (aOp oShr (aVar i) (aC (.int 24))) σ M Q E := w_rot (k := 8) hv hd (by decide) h
theorem w_rot7 (hv : σ[i]? = some (some (.int (d : Int)))) (hd : d < 2 ^ 32) (h : Q (.int (rotl d 7 : Nat)) M) : aOp oOr (aOp oAnd (aOp oShl (aVar i) (aC (.int 7))) (aC (.int 4294967295))) (aOp oShr (aVar i) (aC (.int 25))) σ M Q E := w_rot (k := 7) hv hd (by decide) h
theorem w_bk {k : Nat} (hv : σ[i]? = some (some (.int (d : Int)))) (hd : d < 2 ^ 32) (hk : k ≤ 32) (h : Q (.int (rotl d (32 - k) : Nat)) M) :
    aOp oOr (aOp oShr (aVar i) (aC (.int (k : Int)))) (aOp oAnd (aOp oShl (aVar i) (aC (.int ((32 - k : Nat) : Int)))) (aC (.int 4294967295))) σ M Q E := by
  refine i_op (i_op (i_var hv (i_c (i_bI (show (0 : Int) ≤ (k : Int) by omega) (i_op (i_op (i_var hv (i_c (i_bI (shl_k hd (by omega)) (i_c (i_bI0 (i_bI0 ?_))))))))))))
  rw [Int.toNat_natCast, Int.toNat_natCast, rot_back_prog hd hk]; exact h
theorem w_bk16 (hv : σ[i]? = some (some (.int (d : Int)))) (hd : d < 2 ^ 32) (h : Q (.int (rotl d 16 : Nat)) M) : aOp oOr (aOp oShr (aVar i) (aC (.int 16))) (aOp oAnd (aOp oShl (aVar i) (aC (.int 16))) (aC (.int 4294967295))) σ M Q E := w_bk (k := 16) hv hd (by decide) h
theorem w_bk12 (hv : σ[i]? = some (some (.int (d : Int)))) (hd : d < 2 ^ 32) (h : Q (.int (rotl d 20 : Nat)) M) : aOp oOr (aOp oShr (aVar i) (aC (.int 12))) (aOp oAnd (aOp oShl (aVar i) (aC (.int 20))) (aC (.int 4294967295))) σ M Q E := w_bk (k := 12) hv hd (by decide) h
theorem w_bk8 (hv : σ[i]? = some (some (.int (d : Int)))) (hd : d < 2 ^ 32) (h : Q (.int (rotl d 24 : Nat)) M) : aOp oOr (aOp oShr (aVar i) (aC (.int 8))) (aOp oAnd (aOp oShl (aVar i) (aC (.int 24))) (aC (.int 4294967295))) σ M Q E := w_bk (k := 8) hv hd (by decide) h
theorem w_bk7 (hv : σ[i]? = some (some (.int (d : Int)))) (hd : d < 2 ^ 32) (h : Q (.int (rotl d 25 : Nat)) M) : aOp oOr (aOp oShr (aVar i) (aC (.int 7))) (aOp oAnd (aOp oShl (aVar i) (aC (.int 25))) (aC (.int 4294967295))) σ M Q E := w_bk (k := 7) hv hd (by decide) h
theorem w_ix {p : Addr} {ws : List Nat} (hM : M p = some (cW ws)) (hi : i < ws.length) (h : Q (.int (ws.getD i 0 : Nat)) M) : bIx (.ref p) (.int (i : Int)) M Q := i_ixr hM (at_w hi) h
theorem w_ixt {ws : List Nat} (hi : i < ws.length) (h : Q (.int (ws.getD i 0 : Nat)) M) : bIx (tW ws) (.int (i : Int)) M Q := i_ixt (xs := (wI ws).map D.int) (at_w hi) h
theorem w_set {q : Mem → Prop} {p : Addr} {v : Nat} {ws : List Nat} (hM : M p = some (cW ws)) (hi : i < ws.length) (h : q (mset M p (cW (ws.set i v)))) : sSet (.ref p) (.int (i : Int)) (.int (v : Int)) M q := i_sset hM (ixN_nat (by rw [List.length_map, wI_len]; exact hi)) set_w h
theorem w_lt : (a + b) % 2 ^ 32 < 2 ^ 32 := Nat.mod_lt _ (by decide)
end
theorem len_quarter (z : Wd) : ∀ ds M Q E, sp_quarter z ds M Q E → ds.length = ps_quarter.length := by
  intro ds M Q E h; repeat (first | (obtain ⟨rfl, _⟩ := h; rfl) | (obtain ⟨_, h⟩ := h))
local macro_rules | `(tactic| walk_at "wl") => `(tactic| first | assumption | ((with_reducible apply xor_lt) <;> walk_at "wl") | with_reducible exact w_lt | with_reducible exact sub_lt | ((with_reducible apply rotl_lt); (focus (walk_at "wl"; done)); (focus (decide; done))))
local macro_rules | `(tactic| walk_at "pre") => `(tactic| first | ((first | with_reducible apply w_rot16 | with_reducible apply w_rot12 | with_reducible apply w_rot8 | with_reducible apply w_rot7 | with_reducible apply w_bk16 | with_reducible apply w_bk12 | with_reducible apply w_bk8 | with_reducible apply w_bk7); (focus (exact rfl)); (focus (walk_at "wl"; done))) | fail)
local macro_rules | `(tactic| walk_at "call") => `(tactic| first | with_reducible refine w_add ?_ | ((with_reducible apply w_sub); (focus (walk_at "wl"; done))) | with_reducible refine w_xor ?_ | fail)
theorem v_quarter (z : Wd) : ∀ ds M Q E, sp_quarter z ds M Q E → t_quarter z (pureE M Q E) (startA N_quarter ds) M := (by exact HA.Wq.get : @HA.Wq (∀ ds M Q E, sp_quarter z ds M Q E → t_quarter z (pureE M Q E) (startA N_quarter ds) M) (by
  intro ds M Q E ⟨(a, b, c, d), h, ⟨h1, h2, h3, h4⟩, q⟩
  have h1 : a < 2 ^ 32 := h1
  have h2 : b < 2 ^ 32 := h2
  have h3 : c < 2 ^ 32 := h3
  have h4 : d < 2 ^ 32 := h4
  have h : ds = [.int a, .int b, .int c, .int d] := h
  subst h
  walk_at "start"
  walk_at "r"
  exact q))
theorem len_unquarter (z : Wd) : ∀ ds M Q E, sp_unquarter z ds M Q E → ds.length = ps_unquarter.length := by
  intro ds M Q E h; repeat (first | (obtain ⟨rfl, _⟩ := h; rfl) | (obtain ⟨_, h⟩ := h))
theorem v_unquarter (z : Wd) : ∀ ds M Q E, sp_unquarter z ds M Q E → t_unquarter z (pureE M Q E) (startA N_unquarter ds) M := (by exact HA.Wq.get : @HA.Wq (∀ ds M Q E, sp_unquarter z ds M Q E → t_unquarter z (pureE M Q E) (startA N_unquarter ds) M) (by
  intro ds M Q E ⟨(a, b, c, d), h, ⟨h1, h2, h3, h4⟩, q⟩
  have h1 : a < 2 ^ 32 := h1
  have h2 : b < 2 ^ 32 := h2
  have h3 : c < 2 ^ 32 := h3
  have h4 : d < 2 ^ 32 := h4
  have h : ds = [.int a, .int b, .int c, .int d] := h
  subst h
  walk_at "start"
  walk_at "r"
  exact q))
theorem c_quarter (z : Wd) {ws : List Nat} {i j k l : Nat} {M : Mem} {Q : DK} {E : AX} (hw : WsOk ws) (h : Q (tI [((qrt (at4 ws (i, j, k, l))).1 : Int), ((qrt (at4 ws (i, j, k, l))).2.1 : Int), ((qrt (at4 ws (i, j, k, l))).2.2.1 : Int), ((qrt (at4 ws (i, j, k, l))).2.2.2 : Int)]) M) :
    sp_quarter z [.int (ws.getD i 0 : Nat), .int (ws.getD j 0 : Nat), .int (ws.getD k 0 : Nat), .int (ws.getD l 0 : Nat)] M Q E := ⟨at4 ws (i, j, k, l), rfl, at4_W hw _, h⟩
theorem c_unquarter (z : Wd) {ws : List Nat} {i j k l : Nat} {M : Mem} {Q : DK} {E : AX} (hw : WsOk ws) (h : Q (tI [((unq (at4 ws (i, j, k, l))).1 : Int), ((unq (at4 ws (i, j, k, l))).2.1 : Int), ((unq (at4 ws (i, j, k, l))).2.2.1 : Int), ((unq (at4 ws (i, j, k, l))).2.2.2 : Int)]) M) :
    sp_unquarter z [.int (ws.getD i 0 : Nat), .int (ws.getD j 0 : Nat), .int (ws.getD k 0 : Nat), .int (ws.getD l 0 : Nat)] M Q E := ⟨at4 ws (i, j, k, l), rfl, at4_W hw _, h⟩
theorem len_turn (z : Wd) : ∀ ds M Q E, sp_turn z ds M Q E → ds.length = ps_turn.length := by
  intro ds M Q E h; repeat (first | (obtain ⟨rfl, _⟩ := h; rfl) | (obtain ⟨_, h⟩ := h))
theorem len_turn_back (z : Wd) : ∀ ds M Q E, sp_turn_back z ds M Q E → ds.length = ps_turn_back.length := by
  intro ds M Q E h; repeat (first | (obtain ⟨rfl, _⟩ := h; rfl) | (obtain ⟨_, h⟩ := h))
local macro_rules | `(tactic| walk_at "pre") => `(tactic| fail)
local macro_rules | `(tactic| walk_at "call") => `(tactic| first | ((with_reducible apply w_ix); (focus (walk_at "sd"; done)); (focus (walk_at "sd"; done)); walk_at "mm") | ((with_reducible apply w_set); (focus (walk_at "sd"; done)); (focus (walk_at "sd"; done)); walk_at "mm") | ((with_reducible apply c_quarter); (focus (walk_at "sd"; done)); walk_at "mm") | ((with_reducible apply c_unquarter); (focus (walk_at "sd"; done)); walk_at "mm") | fail)
theorem trn_snoc {ls : List Wd4} {L : Wd4} {ws : List Nat} : trn (ls ++ [L]) ws = qat (trn ls ws) L := by simp [trn]
theorem bck_snoc {ls : List Wd4} {L : Wd4} {ws : List Nat} : bck (ls ++ [L]) ws = uat (bck ls ws) L := by simp [bck]
theorem mset_id {M : Mem} {p : Addr} {c : Cell} (h : M p = some c) : mset M p c = M := (by exact HA.Wq.get : @HA.Wq (mset M p c = M) (by
  funext a
  by_cases e : a = p
  · subst e; rw [mset_same, h]
  · rw [mset_ne e]))
theorem v_turn (z : Wd) : ∀ ds M Q E, sp_turn z ds M Q E → t_turn z (anyE Q E) (startA N_turn ds) M := (by exact HA.Wq.get : @HA.Wq (∀ ds M Q E, sp_turn z ds M Q E → t_turn z (anyE Q E) (startA N_turn ds) M) (by
  intro ds M Q E ⟨p, ws, ls, h, hM, hw, hl, q⟩
  subst h
  walk_at "start"
  walk_at "r"
  refine i_wkt ?_
  refine for_list (l := ls) (enc := fun L => tI (lineI L)) (fun pre σ M' => M' = mset M p (cW (trn pre ws)) ∧ ∃ o2 o3 o4 o5 o6 o7 o8 o9 : Option D, σ = [some (.ref p), some (tL ls), o2, o3, o4, o5, o6, o7, o8, o9]) (by rw [List.map_map]; rfl) ?_ ?_ ?_
  · exact ⟨(mset_id hM).symm, _, _, _, _, _, _, _, _, rfl⟩
  · rintro pre ⟨i, j, k, l⟩ rest e σ M' ⟨rfl, o2, o3, o4, o5, o6, o7, o8, o9, rfl⟩
    obtain ⟨hi, hj, hk, hL⟩ := hl (i, j, k, l) (by rw [e]; simp)
    have hlen : (trn pre ws).length = ws.length := trn_len
    have hok : WsOk (trn pre ws) := trn_ok hw
    rw [trn_snoc]
    generalize trn pre ws = us at hlen hok ⊢
    rw [show lineI (i, j, k, l) = [(i : Int), (j : Int), (k : Int), (l : Int)] from rfl]
    have hi : i < us.length := by rw [hlen]; exact hi
    have hj : j < us.length := by rw [hlen]; exact hj
    have hk : k < us.length := by rw [hlen]; exact hk
    have hL : l < us.length := by rw [hlen]; exact hL
    walk_at "r"
    exact ⟨rfl, _, _, _, _, _, _, _, _, rfl⟩
  · rintro σ M' ⟨rfl, o2, o3, o4, o5, o6, o7, o8, o9, rfl⟩
    walk_at "r"
    exact ⟨_, .refl _, q⟩))
theorem v_turn_back (z : Wd) : ∀ ds M Q E, sp_turn_back z ds M Q E → t_turn_back z (anyE Q E) (startA N_turn_back ds) M := (by exact HA.Wq.get : @HA.Wq (∀ ds M Q E, sp_turn_back z ds M Q E → t_turn_back z (anyE Q E) (startA N_turn_back ds) M) (by
  intro ds M Q E ⟨p, ws, ls, h, hM, hw, hl, q⟩
  subst h
  walk_at "start"
  walk_at "r"
  refine i_wkt ?_
  refine for_list (l := ls) (enc := fun L => tI (lineI L)) (fun pre σ M' => M' = mset M p (cW (bck pre ws)) ∧ ∃ o2 o3 o4 o5 o6 o7 o8 o9 : Option D, σ = [some (.ref p), some (tL ls), o2, o3, o4, o5, o6, o7, o8, o9]) (by rw [List.map_map]; rfl) ?_ ?_ ?_
  · exact ⟨(mset_id hM).symm, _, _, _, _, _, _, _, _, rfl⟩
  · rintro pre ⟨i, j, k, l⟩ rest e σ M' ⟨rfl, o2, o3, o4, o5, o6, o7, o8, o9, rfl⟩
    obtain ⟨hi, hj, hk, hL⟩ := hl (i, j, k, l) (by rw [e]; simp)
    have hlen : (bck pre ws).length = ws.length := bck_len
    have hok : WsOk (bck pre ws) := bck_ok hw
    rw [bck_snoc]
    generalize bck pre ws = us at hlen hok ⊢
    rw [show lineI (i, j, k, l) = [(i : Int), (j : Int), (k : Int), (l : Int)] from rfl]
    have hi : i < us.length := by rw [hlen]; exact hi
    have hj : j < us.length := by rw [hlen]; exact hj
    have hk : k < us.length := by rw [hlen]; exact hk
    have hL : l < us.length := by rw [hlen]; exact hL
    walk_at "r"
    exact ⟨rfl, _, _, _, _, _, _, _, _, rfl⟩
  · rintro σ M' ⟨rfl, o2, o3, o4, o5, o6, o7, o8, o9, rfl⟩
    walk_at "r"
    exact ⟨_, .refl _, q⟩))
end Sh
namespace Sh
open PySem PySem.Spec L2 HA PyProof.Rows
theorem c_turn (z : Wd) {p : Addr} {ws : List Nat} {ls : List Wd4} {M : Mem} {Q : DK} {E : AX} (hM : M p = some (cW ws)) (hw : WsOk ws) (hl : ∀ L ∈ ls, In ws.length L) (h : Q .non (mset M p (cW (trn ls ws)))) : sp_turn z [.ref p, tL ls] M Q E := ⟨p, ws, ls, rfl, hM, hw, hl, h⟩
theorem c_turn_back (z : Wd) {p : Addr} {ws : List Nat} {ls : List Wd4} {M : Mem} {Q : DK} {E : AX} (hM : M p = some (cW ws)) (hw : WsOk ws) (hl : ∀ L ∈ ls, In ws.length L) (h : Q .non (mset M p (cW (bck ls ws)))) : sp_turn_back z [.ref p, tL ls] M Q E := ⟨p, ws, ls, rfl, hM, hw, hl, h⟩
theorem cols_in {ws : List Nat} (h : St ws) : ∀ L ∈ COLS, In ws.length L := by rw [h.1]; decide
theorem dias_in {ws : List Nat} (h : St ws) : ∀ L ∈ DIAS, In ws.length L := by rw [h.1]; decide
theorem trn_st {ls : List Wd4} {ws : List Nat} (h : St ws) : St (trn ls ws) := ⟨trn_len.trans h.1, trn_ok h.2⟩
theorem bck_st {ls : List Wd4} {ws : List Nat} (h : St ws) : St (bck ls ws) := ⟨bck_len.trans h.1, bck_ok h.2⟩
theorem c_cols (z : Wd) {p : Addr} {ws : List Nat} {M : Mem} {Q : DK} {E : AX} (hM : M p = some (cW ws)) (hw : St ws) (h : Q .non (mset M p (cW (trn COLS ws)))) : sp_turn z [.ref p, .tup [(tI [0, 4, 8, 12]), (tI [1, 5, 9, 13]), (tI [2, 6, 10, 14]), (tI [3, 7, 11, 15])]] M Q E := c_turn z (ls := COLS) hM hw.2 (cols_in hw) h
theorem c_dias (z : Wd) {p : Addr} {ws : List Nat} {M : Mem} {Q : DK} {E : AX} (hM : M p = some (cW ws)) (hw : St ws) (h : Q .non (mset M p (cW (trn DIAS ws)))) : sp_turn z [.ref p, .tup [(tI [0, 5, 10, 15]), (tI [1, 6, 11, 12]), (tI [2, 7, 8, 13]), (tI [3, 4, 9, 14])]] M Q E := c_turn z (ls := DIAS) hM hw.2 (dias_in hw) h
theorem c_cols_back (z : Wd) {p : Addr} {ws : List Nat} {M : Mem} {Q : DK} {E : AX} (hM : M p = some (cW ws)) (hw : St ws) (h : Q .non (mset M p (cW (bck COLS ws)))) : sp_turn_back z [.ref p, .tup [(tI [0, 4, 8, 12]), (tI [1, 5, 9, 13]), (tI [2, 6, 10, 14]), (tI [3, 7, 11, 15])]] M Q E := c_turn_back z (ls := COLS) hM hw.2 (cols_in hw) h
theorem c_dias_back (z : Wd) {p : Addr} {ws : List Nat} {M : Mem} {Q : DK} {E : AX} (hM : M p = some (cW ws)) (hw : St ws) (h : Q .non (mset M p (cW (bck DIAS ws)))) : sp_turn_back z [.ref p, .tup [(tI [0, 5, 10, 15]), (tI [1, 6, 11, 12]), (tI [2, 7, 8, 13]), (tI [3, 4, 9, 14])]] M Q E := c_turn_back z (ls := DIAS) hM hw.2 (dias_in hw) h
theorem len_quarter_at (z : Wd) : ∀ ds M Q E, sp_quarter_at z ds M Q E → ds.length = ps_quarter_at.length := by
  intro ds M Q E h; repeat (first | (obtain ⟨rfl, _⟩ := h; rfl) | (obtain ⟨_, h⟩ := h))
theorem v_quarter_at (z : Wd) : ∀ ds M Q E, sp_quarter_at z ds M Q E → t_quarter_at z (pureE M Q E) (startA N_quarter_at ds) M := (by exact HA.Wq.get : @HA.Wq (∀ ds M Q E, sp_quarter_at z ds M Q E → t_quarter_at z (pureE M Q E) (startA N_quarter_at ds) M) (by
  intro ds M Q E ⟨ws, L, h, hw, hL, hl, q⟩
  subst h
  have e : tT [lineI L] = tL [L] := rfl
  walk_at "start"
  walk_at "r"
  intro p hp
  walk_at "r"
  refine c_turn z (ls := [L]) mset_same hw (by simpa using hL) ?_
  rw [mset_mset]
  walk_at "r"
  exact q))
theorem len_double_rounds (z : Wd) : ∀ ds M Q E, sp_double_rounds z ds M Q E → ds.length = ps_double_rounds.length := by
  intro ds M Q E h; repeat (first | (obtain ⟨rfl, _⟩ := h; rfl) | (obtain ⟨_, h⟩ := h))
theorem len_double_rounds_back (z : Wd) : ∀ ds M Q E, sp_double_rounds_back z ds M Q E → ds.length = ps_double_rounds_back.length := by
  intro ds M Q E h; repeat (first | (obtain ⟨rfl, _⟩ := h; rfl) | (obtain ⟨_, h⟩ := h))
theorem len_double_round (z : Wd) : ∀ ds M Q E, sp_double_round z ds M Q E → ds.length = ps_double_round.length := by
  intro ds M Q E h; repeat (first | (obtain ⟨rfl, _⟩ := h; rfl) | (obtain ⟨_, h⟩ := h))
theorem len_double_back (z : Wd) : ∀ ds M Q E, sp_double_back z ds M Q E → ds.length = ps_double_back.length := by
  intro ds M Q E h; repeat (first | (obtain ⟨rfl, _⟩ := h; rfl) | (obtain ⟨_, h⟩ := h))
theorem v_double_rounds (z : Wd) : ∀ ds M Q E, sp_double_rounds z ds M Q E → t_double_rounds z (pureE M Q E) (startA N_double_rounds ds) M := (by exact HA.Wq.get : @HA.Wq (∀ ds M Q E, sp_double_rounds z ds M Q E → t_double_rounds z (pureE M Q E) (startA N_double_rounds ds) M) (by
  intro ds M Q E ⟨ws, n, h, hw, hn, q⟩
  subst h
  have hl := hw.1
  walk_at "start"
  walk_at "r"
  intro p hp
  walk_at "r"
  refine for_range (n := n) (fun i σ M' => M' = mset M p (cW (drs i ws)) ∧ ∃ o3 : Option D, σ = [some (tW ws), some (.int n), some (.ref p), o3]) toNat_cast ?_ ?_ ?_
  · exact ⟨by rw [drs0], _, rfl⟩
  · rintro i hi σ M' ⟨rfl, o3, rfl⟩
    have hs : St (drs i ws) := drs_st hw
    have hs2 : St (trn COLS (drs i ws)) := trn_st hs
    walk_at "r"
    refine c_cols z mset_same hs ?_
    rw [mset_mset]
    walk_at "r"
    refine c_dias z mset_same hs2 ?_
    rw [mset_mset]
    exact ⟨by rw [drsS, dr_eq], _, rfl⟩
  · rintro σ M' ⟨rfl, o3, rfl⟩
    walk_at "r"
    exact q))
theorem v_double_rounds_back (z : Wd) : ∀ ds M Q E, sp_double_rounds_back z ds M Q E → t_double_rounds_back z (pureE M Q E) (startA N_double_rounds_back ds) M := (by exact HA.Wq.get : @HA.Wq (∀ ds M Q E, sp_double_rounds_back z ds M Q E → t_double_rounds_back z (pureE M Q E) (startA N_double_rounds_back ds) M) (by
  intro ds M Q E ⟨ws, n, h, hw, hn, q⟩
  subst h
  have hl := hw.1
  walk_at "start"
  walk_at "r"
  intro p hp
  walk_at "r"
  refine for_range (n := n) (fun i σ M' => M' = mset M p (cW (bdrs i ws)) ∧ ∃ o3 : Option D, σ = [some (tW ws), some (.int n), some (.ref p), o3]) toNat_cast ?_ ?_ ?_
  · exact ⟨by rw [bdrs0], _, rfl⟩
  · rintro i hi σ M' ⟨rfl, o3, rfl⟩
    have hs : St (bdrs i ws) := bdrs_st hw
    have hs2 : St (bck DIAS (bdrs i ws)) := bck_st hs
    walk_at "r"
    refine c_dias_back z mset_same hs ?_
    rw [mset_mset]
    walk_at "r"
    refine c_cols_back z mset_same hs2 ?_
    rw [mset_mset]
    exact ⟨by rw [bdrsS, bdr_eq], _, rfl⟩
  · rintro σ M' ⟨rfl, o3, rfl⟩
    walk_at "r"
    exact q))
theorem c_double_rounds (z : Wd) {ws : List Nat} {n : Nat} {M : Mem} {Q : DK} {E : AX} (hw : St ws) (hn : n ≤ 1000) (h : Q (tW (drs n ws)) M) : sp_double_rounds z [tW ws, .int n] M Q E := ⟨ws, n, rfl, hw, hn, h⟩
theorem c_double_rounds_back (z : Wd) {ws : List Nat} {n : Nat} {M : Mem} {Q : DK} {E : AX} (hw : St ws) (hn : n ≤ 1000) (h : Q (tW (bdrs n ws)) M) : sp_double_rounds_back z [tW ws, .int n] M Q E := ⟨ws, n, rfl, hw, hn, h⟩
theorem v_double_round (z : Wd) : ∀ ds M Q E, sp_double_round z ds M Q E → t_double_round z (pureE M Q E) (startA N_double_round ds) M := (by exact HA.Wq.get : @HA.Wq (∀ ds M Q E, sp_double_round z ds M Q E → t_double_round z (pureE M Q E) (startA N_double_round ds) M) (by
  intro ds M Q E ⟨ws, h, hw, q⟩
  subst h
  walk_at "start"
  walk_at "r"
  refine c_double_rounds z (n := 1) hw (by decide) ?_
  rw [drs1]
  walk_at "r"
  exact q))
theorem v_double_back (z : Wd) : ∀ ds M Q E, sp_double_back z ds M Q E → t_double_back z (pureE M Q E) (startA N_double_back ds) M := (by exact HA.Wq.get : @HA.Wq (∀ ds M Q E, sp_double_back z ds M Q E → t_double_back z (pureE M Q E) (startA N_double_back ds) M) (by
  intro ds M Q E ⟨ws, h, hw, q⟩
  subst h
  walk_at "start"
  walk_at "r"
  refine c_double_rounds_back z (n := 1) hw (by decide) ?_
  rw [bdrs1]
  walk_at "r"
  exact q))
theorem len_rows_turned (z : Wd) : ∀ ds M Q E, sp_rows_turned z ds M Q E → ds.length = ps_rows_turned.length := by
  intro ds M Q E h; repeat (first | (obtain ⟨rfl, _⟩ := h; rfl) | (obtain ⟨_, h⟩ := h))
theorem v_rows_turned (z : Wd) : ∀ ds M Q E, sp_rows_turned z ds M Q E → t_rows_turned z (pureE M Q E) (startA N_rows_turned ds) M := (by exact HA.Wq.get : @HA.Wq (∀ ds M Q E, sp_rows_turned z ds M Q E → t_rows_turned z (pureE M Q E) (startA N_rows_turned ds) M) (by
  intro ds M Q E ⟨ws, n, h, hw, hn, q⟩
  subst h
  have hl := hw.1
  walk_at "start"
  walk_at "r"
  refine lc_range (n := 16) (f := fun i => .int (ws.getD (i - i % 4 + (i + n) % 4) 0 : Nat)) rfl (fun _ _ => trivial) (sz_le (by decide)) ?_ ?_
  · intro i hi M' P N hM hP
    walk_at "r"
    have e : (0 + (i : Int) - (0 + (i : Int)) % 4 + (0 + (i : Int) + n) % 4) = ((i - i % 4 + (i + n) % 4 : Nat) : Int) := by omega
    rw [e]
    refine w_ixt (by omega) ?_
    exact hP
  · walk_at "r"
    exact q))
theorem len_law_word (z : Wd) : ∀ ds M Q E, sp_law_word z ds M Q E → ds.length = ps_law_word.length := by
  intro ds M Q E h; repeat (first | (obtain ⟨rfl, _⟩ := h; rfl) | (obtain ⟨_, h⟩ := h))
theorem v_law_word (z : Wd) : ∀ ds M Q E, sp_law_word z ds M Q E → t_law_word z (pureE M Q E) (startA N_law_word ds) M := (by exact HA.Wq.get : @HA.Wq (∀ ds M Q E, sp_law_word z ds M Q E → t_law_word z (pureE M Q E) (startA N_law_word ds) M) (by
  intro ds M Q E ⟨x, h, hd, q⟩
  subst h
  walk_at "start"
  walk_at "r"
  intro r h1 h2
  walk_at "r"
  refine br (fun h => ?_) (fun h => ?_)
  · walk_at "r"
    obtain rfl | rfl | rfl | rfl : r = 0 ∨ r = 1 ∨ r = 2 ∨ r = 3 := by omega
    · refine i_ixlI rfl ?_
      walk_at "r"
      exact q 0 (by decide)
    · refine i_ixlI rfl ?_
      walk_at "r"
      exact q 1 (by decide)
    · refine i_ixlI rfl ?_
      walk_at "r"
      exact q 4294967295 (by decide)
    · refine i_ixlI rfl ?_
      walk_at "r"
      exact q 2147483648 (by decide)
  · walk_at "r"
    intro a h3 h4
    walk_at "r"
    intro b h5 h6
    walk_at "r"
    have e : (a * 65536 + b) = ((a * 65536 + b).toNat : Int) := by omega
    rw [e]
    exact q _ (by omega)))
end Sh
namespace Sh
open PySem PySem.Spec L2 HA PyProof.Rows
section
variable {M : Mem} {Q : DK} {x : Nat}
theorem w_rl16 (h : Q (.int (rotl x 16 : Nat)) M) : bAddF (.int ((x : Int) * 65536 % 4294967296)) (.int ((x : Int) * 65536 / 4294967296)) M Q := by
  refine i_addI ?_
  rw [show (65536 : Int) = 2 ^ 16 by decide, rot_law (by decide)]; exact h
theorem w_rl12 (h : Q (.int (rotl x 12 : Nat)) M) : bAddF (.int ((x : Int) * 4096 % 4294967296)) (.int ((x : Int) * 4096 / 4294967296)) M Q := by
  refine i_addI ?_
  rw [show (4096 : Int) = 2 ^ 12 by decide, rot_law (by decide)]; exact h
theorem w_rl8 (h : Q (.int (rotl x 8 : Nat)) M) : bAddF (.int ((x : Int) * 256 % 4294967296)) (.int ((x : Int) * 256 / 4294967296)) M Q := by
  refine i_addI ?_
  rw [show (256 : Int) = 2 ^ 8 by decide, rot_law (by decide)]; exact h
theorem w_rl7 (h : Q (.int (rotl x 7 : Nat)) M) : bAddF (.int ((x : Int) * 128 % 4294967296)) (.int ((x : Int) * 128 / 4294967296)) M Q := by
  refine i_addI ?_
  rw [show (128 : Int) = 2 ^ 7 by decide, rot_law (by decide)]; exact h
end
theorem gs_eq {ws : List Nat} {i v : Nat} (h : i < ws.length) : (ws.set i v).getD i 0 = v := by
  rw [List.getD_eq_getElem?_getD, List.getElem?_set_self h]; rfl
theorem gs_ne {ws : List Nat} {i j v : Nat} (h : i ≠ j) : (ws.set i v).getD j 0 = ws.getD j 0 := by
  rw [List.getD_eq_getElem?_getD, List.getElem?_set_ne h, ← List.getD_eq_getElem?_getD]
/-- half a quarter at four places -/
def hat (k l : Nat) (ws : List Nat) (L : Wd4) : List Nat := put4 ws L (half k l (at4 ws L))
theorem at4_put4 {ws : List Nat} {L q : Wd4} (h : In ws.length L) (hd : Dis L) : at4 (put4 ws L q) L = q := (by exact HA.Wq.get : @HA.Wq (at4 (put4 ws L q) L = q) (by
  obtain ⟨i, j, k, l⟩ := L
  obtain ⟨h1, h2, h3, h4⟩ := h
  obtain ⟨d1, d2, d3, d4, d5, d6⟩ := hd
  have h1 : i < ws.length := h1
  have h2 : j < ws.length := h2
  have h3 : k < ws.length := h3
  have h4 : l < ws.length := h4
  have d1 : i ≠ j := d1
  have d2 : i ≠ k := d2
  have d3 : i ≠ l := d3
  have d4 : j ≠ k := d4
  have d5 : j ≠ l := d5
  have d6 : k ≠ l := d6
  unfold at4 put4
  simp only [gs_ne d1.symm, gs_ne d2.symm, gs_ne d3.symm, gs_ne d4.symm, gs_ne d5.symm, gs_ne d6.symm]
  rw [gs_eq (by simpa using h1), gs_eq (by simpa using h2), gs_eq (by simpa using h3), gs_eq (by simpa using h4)]))
theorem put4_put4 {ws : List Nat} {L q q' : Wd4} (hd : Dis L) : put4 (put4 ws L q) L q' = put4 ws L q' := (by exact HA.Wq.get : @HA.Wq (put4 (put4 ws L q) L q' = put4 ws L q') (by
  obtain ⟨i, j, k, l⟩ := L
  obtain ⟨d1, d2, d3, d4, d5, d6⟩ := hd
  have d1 : i ≠ j := d1
  have d2 : i ≠ k := d2
  have d3 : i ≠ l := d3
  have d4 : j ≠ k := d4
  have d5 : j ≠ l := d5
  have d6 : k ≠ l := d6
  unfold put4
  show ((((((((ws.set i q.1).set j q.2.1).set k q.2.2.1).set l q.2.2.2).set i q'.1).set j q'.2.1).set k q'.2.2.1).set l q'.2.2.2) = _
  rw [List.set_comm _ _ (Ne.symm d3), List.set_comm _ _ (Ne.symm d2), List.set_comm _ _ (Ne.symm d1), List.set_set,
    List.set_comm _ _ (Ne.symm d5), List.set_comm _ _ (Ne.symm d4), List.set_set, List.set_comm _ _ (Ne.symm d6), List.set_set, List.set_set]))
theorem hat_hat {ws : List Nat} {L : Wd4} (h : In ws.length L) (hd : Dis L) : hat 8 7 (hat 16 12 ws L) L = qat ws L := by
  unfold hat qat qrt
  rw [at4_put4 h hd, put4_put4 hd]
theorem len_law_quarter (z : Wd) : ∀ ds M Q E, sp_law_quarter z ds M Q E → ds.length = ps_law_quarter.length := by
  intro ds M Q E h; repeat (first | (obtain ⟨rfl, _⟩ := h; rfl) | (obtain ⟨_, h⟩ := h))
def lv1 (ws : List Nat) (i j : Nat) : List Nat := ws.set i ((ws.getD i 0 + ws.getD j 0) % 2 ^ 32)
def lv2 (kk : Nat) (ws : List Nat) (l i : Nat) : List Nat := ws.set l (rotl (ws.getD l 0 ^^^ ws.getD i 0) kk)
/-- the law's own half -/
theorem law_half {kk ll : Nat} {ws : List Nat} {i j k l : Nat} (h : In ws.length (i, j, k, l)) (hd : Dis (i, j, k, l)) :
    lv2 ll (lv1 (lv2 kk (lv1 ws i j) l i) k l) j k = hat kk ll ws (i, j, k, l) := (by exact HA.Wq.get : @HA.Wq (lv2 ll (lv1 (lv2 kk (lv1 ws i j) l i) k l) j k = hat kk ll ws (i, j, k, l)) (by
  obtain ⟨h1, h2, h3, h4⟩ := h
  obtain ⟨d1, d2, d3, d4, d5, d6⟩ := hd
  have h1 : i < ws.length := h1
  have h2 : j < ws.length := h2
  have h3 : k < ws.length := h3
  have h4 : l < ws.length := h4
  have d1 : i ≠ j := d1
  have d2 : i ≠ k := d2
  have d3 : i ≠ l := d3
  have d4 : j ≠ k := d4
  have d5 : j ≠ l := d5
  have d6 : k ≠ l := d6
  have e1 : (lv1 ws i j).getD i 0 = (ws.getD i 0 + ws.getD j 0) % 2 ^ 32 := gs_eq h1
  have e2 : (lv1 ws i j).getD l 0 = ws.getD l 0 := gs_ne d3
  have e3 : (lv2 kk (lv1 ws i j) l i).getD l 0 = rotl (ws.getD l 0 ^^^ (ws.getD i 0 + ws.getD j 0) % 2 ^ 32) kk := by
    unfold lv2; rw [gs_eq (by unfold lv1; simpa using h4), e1, e2]
  have e4 : (lv2 kk (lv1 ws i j) l i).getD k 0 = ws.getD k 0 := by
    unfold lv2; rw [gs_ne (Ne.symm d6)]; exact gs_ne d2
  have e5 : (lv1 (lv2 kk (lv1 ws i j) l i) k l).getD k 0 = (ws.getD k 0 + rotl (ws.getD l 0 ^^^ (ws.getD i 0 + ws.getD j 0) % 2 ^ 32) kk) % 2 ^ 32 := by
    rw [← e3, ← e4]; exact gs_eq (by unfold lv2 lv1; simpa using h3)
  have e6 : (lv1 (lv2 kk (lv1 ws i j) l i) k l).getD j 0 = ws.getD j 0 := by
    unfold lv1 lv2
    rw [gs_ne (Ne.symm d4), gs_ne (Ne.symm d5)]; exact gs_ne d1
  have f1 : ∀ us : List Nat, ∀ a b, lv1 us a b = us.set a ((us.getD a 0 + us.getD b 0) % 2 ^ 32) := fun _ _ _ => rfl
  have f2 : ∀ q (us : List Nat), ∀ a b, lv2 q us a b = us.set a (rotl (us.getD a 0 ^^^ us.getD b 0) q) := fun _ _ _ _ => rfl
  rw [f2 ll, e5, e6, f1 (lv2 kk (lv1 ws i j) l i), e3, e4, f2 kk, e1, e2, f1]
  unfold hat put4 half at4
  show (((ws.set i _).set l _).set k _).set j _ = (((ws.set i _).set j _).set k _).set l _
  rw [List.set_comm _ _ (Ne.symm d6), List.set_comm _ _ (Ne.symm d5), List.set_comm _ _ (Ne.symm d4)]))
def hs (ws : List Nat) (L : Wd4) : Nat → List Nat
  | 0 => ws
  | 1 => hat 16 12 ws L
  | _ => qat ws L
local macro_rules | `(tactic| walk_at "call") => `(tactic| first | ((with_reducible apply w_ix); (focus (walk_at "sd"; done)); (focus (walk_at "sd"; done)); walk_at "mm") | ((with_reducible apply w_set); (focus (walk_at "sd"; done)); (focus (walk_at "sd"; done)); walk_at "mm") | ((with_reducible apply w_mod); walk_at "mm") | ((with_reducible apply w_xor); walk_at "mm") | ((with_reducible apply w_rl16); walk_at "mm") | ((with_reducible apply w_rl12); walk_at "mm") | ((with_reducible apply w_rl8); walk_at "mm") | ((with_reducible apply w_rl7); walk_at "mm") | fail)
theorem v_law_quarter (z : Wd) : ∀ ds M Q E, sp_law_quarter z ds M Q E → t_law_quarter z (anyE Q E) (startA N_law_quarter ds) M := (by exact HA.Wq.get : @HA.Wq (∀ ds M Q E, sp_law_quarter z ds M Q E → t_law_quarter z (anyE Q E) (startA N_law_quarter ds) M) (by
  intro ds M Q E ⟨p, ws, ⟨i, j, k, l⟩, h, hM, hw, hL, hd, q⟩
  have h : ds = [.ref p, .int i, .int j, .int k, .int l] := h
  subst h
  have d1 : i ≠ j := hd.1
  have d2 : i ≠ k := hd.2.1
  have d3 : i ≠ l := hd.2.2.1
  have d4 : j ≠ k := hd.2.2.2.1
  have d5 : j ≠ l := hd.2.2.2.2.1
  have d6 : k ≠ l := hd.2.2.2.2.2
  walk_at "start"
  walk_at "r"
  refine for_list (l := [(65536, 4096), (256, 128)]) (enc := fun (u : Int × Int) => tI [u.1, u.2]) (fun pre σ M' => M' = mset M p (cW (hs ws (i, j, k, l) pre.length)) ∧ ∃ o5 o6 o7 : Option D, σ = [some (.ref p), some (.int i), some (.int j), some (.int k), some (.int l), o5, o6, o7]) rfl ?_ ?_ ?_
  · exact ⟨(mset_id hM).symm, _, _, _, rfl⟩
  · rintro pre u rest e σ M' ⟨rfl, o5, o6, o7, rfl⟩
    have hlen : (hs ws (i, j, k, l) pre.length).length = ws.length := by
      unfold hs; split
      · rfl
      · exact put4_len
      · exact qat_len
    rw [List.length_append, List.length_singleton]
    obtain ⟨h0, rfl⟩ | ⟨h0, rfl⟩ : (pre.length = 0 ∧ u = (65536, 4096)) ∨ (pre.length = 1 ∧ u = (256, 128)) := by
      match pre, e with
      | [], e => exact .inl ⟨rfl, by simpa using (List.cons.inj e).1.symm⟩
      | [v], e => exact .inr ⟨rfl, by have := (List.cons.inj (List.cons.inj e).2).1; exact this.symm⟩
      | _ :: _ :: pre, e => have := congrArg List.length e; simp at this
    · rw [h0] at hlen ⊢
      have e1 : hs ws (i, j, k, l) (0 + 1) = hat 16 12 (hs ws (i, j, k, l) 0) (i, j, k, l) := rfl
      rw [e1]
      generalize hs ws (i, j, k, l) 0 = us at hlen ⊢
      have hL2 : In us.length (i, j, k, l) := by rw [hlen]; exact hL
      rw [← law_half hL2 hd]
      have h1 : i < us.length := hL2.1
      have h2 : j < us.length := hL2.2.1
      have h3 : k < us.length := hL2.2.2.1
      have h4 : l < us.length := hL2.2.2.2
      show True ∧ agTup 2 _ (tI [65536, 4096]) _ _ _ _
      walk_at "r"
      exact ⟨rfl, _, _, _, rfl⟩
    · rw [h0] at hlen ⊢
      have e1 : hs ws (i, j, k, l) (1 + 1) = hat 8 7 (hs ws (i, j, k, l) 1) (i, j, k, l) := (hat_hat hL hd).symm
      rw [e1]
      generalize hs ws (i, j, k, l) 1 = us at hlen ⊢
      have hL2 : In us.length (i, j, k, l) := by rw [hlen]; exact hL
      rw [← law_half hL2 hd]
      have h1 : i < us.length := hL2.1
      have h2 : j < us.length := hL2.2.1
      have h3 : k < us.length := hL2.2.2.1
      have h4 : l < us.length := hL2.2.2.2
      show True ∧ agTup 2 _ (tI [256, 128]) _ _ _ _
      walk_at "r"
      exact ⟨rfl, _, _, _, rfl⟩
  · rintro σ M' ⟨rfl, o5, o6, o7, rfl⟩
    walk_at "r"
    exact ⟨_, .refl _, q⟩))
theorem len_law_rounds (z : Wd) : ∀ ds M Q E, sp_law_rounds z ds M Q E → ds.length = ps_law_rounds.length := by
  intro ds M Q E h; repeat (first | (obtain ⟨rfl, _⟩ := h; rfl) | (obtain ⟨rfl | rfl, _⟩ := h <;> rfl) | (obtain ⟨_, h⟩ := h))
theorem c_law_quarter (z : Wd) {p : Addr} {ws : List Nat} {i j k l : Nat} {a b c d : Int} {M : Mem} {Q : DK} {E : AX} (hM : M p = some (cW ws)) (ea : a = i) (eb : b = j) (ec : c = k) (ed : d = l) (hw : WsOk ws) (hL : In ws.length (i, j, k, l)) (hd : Dis (i, j, k, l)) (h : Q .non (mset M p (cW (qat ws (i, j, k, l))))) :
    sp_law_quarter z [.ref p, .int a, .int b, .int c, .int d] M Q E := by
  subst ea eb ec ed
  exact ⟨p, ws, (i, j, k, l), rfl, hM, hw, hL, hd, h⟩
def colAt (i : Nat) : Wd4 := (i, 4 + i, 8 + i, 12 + i)
def diaAt (i : Nat) : Wd4 := (i, 4 + (i + 1) % 4, 8 + (i + 2) % 4, 12 + (i + 3) % 4)
theorem cols_at : (List.range 4).map colAt = COLS := by decide
theorem dias_at : (List.range 4).map diaAt = DIAS := by decide
theorem col_ok {i : Nat} (h : i < 4) : In 16 (colAt i) ∧ Dis (colAt i) := by
  obtain rfl | rfl | rfl | rfl : i = 0 ∨ i = 1 ∨ i = 2 ∨ i = 3 := by omega
  all_goals decide
theorem dia_ok {i : Nat} (h : i < 4) : In 16 (diaAt i) ∧ Dis (diaAt i) := by
  obtain rfl | rfl | rfl | rfl : i = 0 ∨ i = 1 ∨ i = 2 ∨ i = 3 := by omega
  all_goals decide
theorem trn_at {f : Nat → Wd4} {i : Nat} {ws : List Nat} : trn ((List.range (i + 1)).map f) ws = qat (trn ((List.range i).map f) ws) (f i) := by
  rw [List.range_succ, List.map_append, List.map_singleton, trn_snoc]
theorem v_law_rounds (z : Wd) : ∀ ds M Q E, sp_law_rounds z ds M Q E → t_law_rounds z (pureE M Q E) (startA N_law_rounds ds) M := (by exact HA.Wq.get : @HA.Wq (∀ ds M Q E, sp_law_rounds z ds M Q E → t_law_rounds z (pureE M Q E) (startA N_law_rounds ds) M) (by
  intro ds M Q E ⟨ws, n, h, hw, hn, q⟩
  have hl := hw.1
  obtain ⟨d, hd1, hd2⟩ : ∃ d, ds = [d, .int n] ∧ (d = tW ws ∨ d = lI (wI ws)) := by
    rcases h with h | h
    · exact ⟨_, h, .inl rfl⟩
    · exact ⟨_, h, .inr rfl⟩
  subst hd1
  have key : ∀ p, M p = none → t_law_rounds_9 z (pureE M Q E) [some d, some (.int n), some (.ref p), none, none] (mset M p (cW ws)) := ?_
  · walk_at "start"
    rcases hd2 with rfl | rfl
    · walk_at "r"
      intro p hp
      exact key p hp
    · walk_at "r"
      intro p hp
      exact key p hp
  clear hd2
  intro p hp
  walk_at "start"
  walk_at "r"
  refine for_range (n := n) (fun i σ M' => M' = mset M p (cW (drs i ws)) ∧ ∃ o3 o4 : Option D, σ = [some d, some (.int n), some (.ref p), o3, o4]) toNat_cast ?_ ?_ ?_
  · exact ⟨by rw [drs0], _, _, rfl⟩
  · rintro i hi σ M' ⟨rfl, o3, o4, rfl⟩
    have hs : St (drs i ws) := drs_st hw
    show True ∧ _
    walk_at "r"
    refine for_range (n := 4) (fun j σ M' => M' = mset M p (cW (trn ((List.range j).map colAt) (drs i ws))) ∧ ∃ o4 : Option D, σ = [some d, some (.int n), some (.ref p), some (.int (0 + (i : Int))), o4]) rfl ?_ ?_ ?_
    · exact ⟨rfl, _, rfl⟩
    · rintro j hj σ M' ⟨rfl, o4, rfl⟩
      have hs3 := trn_st (ls := (List.range j).map colAt) hs
      walk_at "r"
      refine c_law_quarter z (i := j) (j := 4 + j) (k := 8 + j) (l := 12 + j) mset_same (by omega) (by omega) (by omega) (by omega) hs3.2 (by rw [hs3.1]; exact (col_ok hj).1) (col_ok hj).2 ?_
      rw [mset_mset, trn_at]
      exact ⟨rfl, _, rfl⟩
    · rintro σ M' ⟨rfl, o4, rfl⟩
      rw [cols_at]
      have hs2 : St (trn COLS (drs i ws)) := trn_st hs
      walk_at "r"
      refine for_range (n := 4) (fun j σ M' => M' = mset M p (cW (trn ((List.range j).map diaAt) (trn COLS (drs i ws)))) ∧ ∃ o4 : Option D, σ = [some d, some (.int n), some (.ref p), some (.int (0 + (i : Int))), o4]) rfl ?_ ?_ ?_
      · exact ⟨rfl, _, rfl⟩
      · rintro j hj σ M' ⟨rfl, o4, rfl⟩
        have hs3 := trn_st (ls := (List.range j).map diaAt) hs2
        walk_at "r"
        refine c_law_quarter z (i := j) (j := 4 + (j + 1) % 4) (k := 8 + (j + 2) % 4) (l := 12 + (j + 3) % 4) mset_same (by omega) (by omega) (by omega) (by omega) hs3.2 (by rw [hs3.1]; exact (dia_ok hj).1) (dia_ok hj).2 ?_
        rw [mset_mset, trn_at]
        exact ⟨rfl, _, rfl⟩
      · rintro σ M' ⟨rfl, o4, rfl⟩
        rw [dias_at]
        exact ⟨trivial, by rw [drsS, dr_eq], _, _, rfl⟩
  · rintro σ M' ⟨rfl, o3, o4, rfl⟩
    walk_at "r"
    exact q))
end Sh
/-! PCW: rounds undone, in any order, turned: plain law -/
namespace Sh
open PySem PySem.Spec L2 HA
theorem rot2 {d k : Nat} (h : d < 2 ^ 32) (hk : k ≤ 32) : rotl (rotl d (32 - k)) k = d := by
  have := rotl_back (d := d) (k := 32 - k) h (by omega)
  rwa [show 32 - (32 - k) = k by omega] at this
theorem add_sub {a b : Nat} (ha : a < 2 ^ 32) (hb : b < 2 ^ 32) : (sub32 a b + b) % 2 ^ 32 = a := by unfold sub32; omega
theorem half_un {k l : Nat} (hk : k ≤ 32) (hl : l ≤ 32) : ∀ q, W4 q → half k l (unhalf k l q) = q := fun (a, b, c, d) ⟨h1, h2, h3, h4⟩ => by
  have h1 : a < 2 ^ 32 := h1
  have h2 : b < 2 ^ 32 := h2
  have h3 : c < 2 ^ 32 := h3
  have h4 : d < 2 ^ 32 := h4
  have hb : rotl b (32 - l) ^^^ c < 2 ^ 32 := xor_lt (rotl_lt h2 (by omega)) h3
  simp only [half, unhalf]
  rw [add_sub h1 hb, xor_xor, rot2 h4 hk, add_sub h3 h4, xor_xor, rot2 h2 hl]
theorem qrt_unq {q : Wd4} (h : W4 q) : qrt (unq q) = q := by
  unfold unq qrt
  rw [half_un (by decide) (by decide) _ (unhalf_W _ h), half_un (by decide) (by decide) _ h]
def gat (f : Wd4 → Wd4) (ws : List Nat) (L : Wd4) : List Nat := put4 ws L (f (at4 ws L))
theorem put4_self {ws : List Nat} {L : Wd4} (h : In ws.length L) : put4 ws L (at4 ws L) = ws := (by exact HA.Wq.get : @HA.Wq (put4 ws L (at4 ws L) = ws) (by
  obtain ⟨i, j, k, l⟩ := L
  obtain ⟨h1, h2, h3, h4⟩ := h
  have e : ∀ i, i < ws.length → ws.set i (ws.getD i 0) = ws := fun i hi => by
    rw [List.getD_eq_getElem?_getD, List.getElem?_eq_getElem hi]
    exact List.set_getElem_self hi
  show (((ws.set i (ws.getD i 0)).set j (ws.getD j 0)).set k (ws.getD k 0)).set l (ws.getD l 0) = ws
  rw [e i h1, e j h2, e k h3, e l h4]))
theorem gat_gat {f g : Wd4 → Wd4} {ws : List Nat} {L : Wd4} (h : In ws.length L) (hd : Dis L) (e : g (f (at4 ws L)) = at4 ws L) : gat g (gat f ws L) L = ws := by
  unfold gat
  rw [at4_put4 h hd, put4_put4 hd, e, put4_self h]
def Far (L K : Wd4) : Prop := ∀ a ∈ [L.1, L.2.1, L.2.2.1, L.2.2.2], ∀ b ∈ [K.1, K.2.1, K.2.2.1, K.2.2.2], a ≠ b
instance {L K : Wd4} : Decidable (Far L K) := by unfold Far; infer_instance
theorem put4_set {ws : List Nat} {K q : Wd4} {i v : Nat} (h : ∀ b ∈ [K.1, K.2.1, K.2.2.1, K.2.2.2], i ≠ b) : put4 (ws.set i v) K q = (put4 ws K q).set i v := (by exact HA.Wq.get : @HA.Wq (put4 (ws.set i v) K q = (put4 ws K q).set i v) (by
  have h1 := h K.1 (by simp)
  have h2 := h K.2.1 (by simp)
  have h3 := h K.2.2.1 (by simp)
  have h4 := h K.2.2.2 (by simp)
  unfold put4
  rw [List.set_comm _ _ h1, List.set_comm _ _ h2, List.set_comm _ _ h3, List.set_comm _ _ h4]))
theorem put4_comm {ws : List Nat} {L K q r : Wd4} (h : Far L K) : put4 (put4 ws L q) K r = put4 (put4 ws K r) L q := (by exact HA.Wq.get : @HA.Wq (put4 (put4 ws L q) K r = put4 (put4 ws K r) L q) (by
  have h1 := h L.1 (by simp)
  have h2 := h L.2.1 (by simp)
  have h3 := h L.2.2.1 (by simp)
  have h4 := h L.2.2.2 (by simp)
  show put4 ((((ws.set L.1 q.1).set L.2.1 q.2.1).set L.2.2.1 q.2.2.1).set L.2.2.2 q.2.2.2) K r = _
  rw [put4_set h4, put4_set h3, put4_set h2, put4_set h1]
  rfl))
theorem at4_far {ws : List Nat} {L K q : Wd4} (h : Far L K) : at4 (put4 ws L q) K = at4 ws K := (by exact HA.Wq.get : @HA.Wq (at4 (put4 ws L q) K = at4 ws K) (by
  have e : ∀ b ∈ [K.1, K.2.1, K.2.2.1, K.2.2.2], (put4 ws L q).getD b 0 = ws.getD b 0 := fun b hb => by
    unfold put4
    rw [gs_ne (h _ (by simp) b hb), gs_ne (h _ (by simp) b hb), gs_ne (h _ (by simp) b hb), gs_ne (h _ (by simp) b hb)]
  unfold at4
  rw [e _ (by simp), e _ (by simp), e _ (by simp), e _ (by simp)]))
theorem Far.symm {L K : Wd4} (h : Far L K) : Far K L := fun a ha b hb => (h b hb a ha).symm
theorem gat_comm {f g : Wd4 → Wd4} {ws : List Nat} {L K : Wd4} (h : Far L K) : gat g (gat f ws L) K = gat f (gat g ws K) L := by
  unfold gat
  rw [at4_far h, at4_far h.symm, put4_comm h]
def gtr (f : Wd4 → Wd4) (ls : List Wd4) (ws : List Nat) : List Nat := ls.foldl (gat f) ws
theorem gtr_comm {f g : Wd4 → Wd4} {L : Wd4} : ∀ {ls : List Wd4} {ws : List Nat}, (∀ K ∈ ls, Far L K) → gat g (gtr f ls ws) L = gtr f ls (gat g ws L)
  | [], _, _ => rfl
  | K :: r, ws, h => by
    show gat g (gtr f r (gat f ws K)) L = gtr f r (gat f (gat g ws L) K)
    rw [gtr_comm fun J hJ => h J (List.mem_cons_of_mem _ hJ), gat_comm (h K List.mem_cons_self).symm]
theorem gtr_un {f g : Wd4 → Wd4} (hg : ∀ q, W4 q → g (f q) = q) : ∀ {ls : List Wd4} {ws : List Nat}, WsOk ws → (∀ L ∈ ls, In ws.length L ∧ Dis L) → ls.Pairwise Far → gtr g ls (gtr f ls ws) = ws
  | [], _, _, _, _ => rfl
  | L :: r, ws, hw, h, hp => by
    obtain ⟨p1, p2⟩ := List.pairwise_cons.mp hp
    show gtr g r (gat g (gtr f r (gat f ws L)) L) = ws
    obtain ⟨i1, i2⟩ := h L List.mem_cons_self
    rw [gtr_comm p1, gat_gat i1 i2 (hg _ (at4_W hw L))]
    exact gtr_un hg hw (fun K hK => h K (List.mem_cons_of_mem _ hK)) p2
theorem ind (n : Nat) (h : n = 16) : ∀ L ∈ COLS, In n L ∧ Dis L := by subst h; decide
theorem ind2 (n : Nat) (h : n = 16) : ∀ L ∈ DIAS, In n L ∧ Dis L := by subst h; decide
theorem far1 : COLS.Pairwise Far := by decide
theorem far2 : DIAS.Pairwise Far := by decide
theorem bdr_dr {ws : List Nat} (h : St ws) : bdr (dr ws) = ws := (by exact HA.Wq.get : @HA.Wq (bdr (dr ws) = ws) (by
  have h2 : St (trn COLS ws) := trn_st h
  rw [bdr_eq, dr_eq]
  show gtr unq COLS (gtr unq DIAS (gtr qrt DIAS (trn COLS ws))) = ws
  rw [gtr_un (fun _ hq => unq_qrt hq) h2.2 (ind2 _ h2.1) far2]
  exact gtr_un (fun _ hq => unq_qrt hq) h.2 (ind _ h.1) far1))
theorem dr_bdr {ws : List Nat} (h : St ws) : dr (bdr ws) = ws := (by exact HA.Wq.get : @HA.Wq (dr (bdr ws) = ws) (by
  have h2 : St (bck DIAS ws) := bck_st h
  rw [bdr_eq, dr_eq]
  show gtr qrt DIAS (gtr qrt COLS (gtr unq COLS (bck DIAS ws))) = ws
  rw [gtr_un (fun _ hq => qrt_unq hq) h2.2 (ind _ h2.1) far1]
  exact gtr_un (fun _ hq => qrt_unq hq) h.2 (ind2 _ h.1) far2))
theorem drs_add (a b : Nat) (ws : List Nat) : drs (a + b) ws = drs a (drs b ws) := by
  induction a with
  | zero => rw [Nat.zero_add, drs0]
  | succ a ih => rw [Nat.succ_add]; show drs (a + b + 1) ws = _; rw [drsS, drsS, ih]
theorem drs_in (a : Nat) (ws : List Nat) : drs (a + 1) ws = drs a (dr ws) := by rw [← drs1]; exact drs_add a 1 ws
theorem bdrs_in (a : Nat) (ws : List Nat) : bdrs (a + 1) ws = bdrs a (bdr ws) := by
  induction a with
  | zero => rw [bdrs1, bdrs0]
  | succ a ih => rw [bdrsS (n := a + 1), ih, bdrsS]
theorem bdrs_drs : ∀ {n : Nat} {ws : List Nat}, St ws → bdrs n (drs n ws) = ws
  | 0, _, _ => by rw [drs0, bdrs0]
  | n + 1, ws, h => by
    rw [bdrs_in]
    rw [drsS, bdr_dr (drs_st h), bdrs_drs h]
theorem drs_bdrs : ∀ {n : Nat} {ws : List Nat}, St ws → drs n (bdrs n ws) = ws
  | 0, _, _ => by rw [bdrs0, drs0]
  | n + 1, ws, h => by
    rw [drs_in]
    rw [bdrsS, dr_bdr (bdrs_st h), drs_bdrs h]
theorem cols_e {f : Wd4 → Wd4} {w0 w1 w2 w3 w4 w5 w6 w7 w8 w9 w10 w11 w12 w13 w14 w15 : Nat} : gtr f COLS [w0, w1, w2, w3, w4, w5, w6, w7, w8, w9, w10, w11, w12, w13, w14, w15] = [(f (w0, w4, w8, w12)).1, (f (w1, w5, w9, w13)).1, (f (w2, w6, w10, w14)).1, (f (w3, w7, w11, w15)).1, (f (w0, w4, w8, w12)).2.1, (f (w1, w5, w9, w13)).2.1, (f (w2, w6, w10, w14)).2.1, (f (w3, w7, w11, w15)).2.1, (f (w0, w4, w8, w12)).2.2.1, (f (w1, w5, w9, w13)).2.2.1, (f (w2, w6, w10, w14)).2.2.1, (f (w3, w7, w11, w15)).2.2.1, (f (w0, w4, w8, w12)).2.2.2, (f (w1, w5, w9, w13)).2.2.2, (f (w2, w6, w10, w14)).2.2.2, (f (w3, w7, w11, w15)).2.2.2] := by
  simp [gtr, gat, at4, put4, COLS]
theorem dias_e {f : Wd4 → Wd4} {w0 w1 w2 w3 w4 w5 w6 w7 w8 w9 w10 w11 w12 w13 w14 w15 : Nat} : gtr f DIAS [w0, w1, w2, w3, w4, w5, w6, w7, w8, w9, w10, w11, w12, w13, w14, w15] = [(f (w0, w5, w10, w15)).1, (f (w1, w6, w11, w12)).1, (f (w2, w7, w8, w13)).1, (f (w3, w4, w9, w14)).1, (f (w3, w4, w9, w14)).2.1, (f (w0, w5, w10, w15)).2.1, (f (w1, w6, w11, w12)).2.1, (f (w2, w7, w8, w13)).2.1, (f (w2, w7, w8, w13)).2.2.1, (f (w3, w4, w9, w14)).2.2.1, (f (w0, w5, w10, w15)).2.2.1, (f (w1, w6, w11, w12)).2.2.1, (f (w1, w6, w11, w12)).2.2.2, (f (w2, w7, w8, w13)).2.2.2, (f (w3, w4, w9, w14)).2.2.2, (f (w0, w5, w10, w15)).2.2.2] := by
  simp [gtr, gat, at4, put4, DIAS]
theorem mov_e0 {w0 w1 w2 w3 w4 w5 w6 w7 w8 w9 w10 w11 w12 w13 w14 w15 : Nat} : movd 0 [w0, w1, w2, w3, w4, w5, w6, w7, w8, w9, w10, w11, w12, w13, w14, w15] = [w0, w1, w2, w3, w4, w5, w6, w7, w8, w9, w10, w11, w12, w13, w14, w15] := rfl
theorem mov_e1 {w0 w1 w2 w3 w4 w5 w6 w7 w8 w9 w10 w11 w12 w13 w14 w15 : Nat} : movd 1 [w0, w1, w2, w3, w4, w5, w6, w7, w8, w9, w10, w11, w12, w13, w14, w15] = [w1, w2, w3, w0, w5, w6, w7, w4, w9, w10, w11, w8, w13, w14, w15, w12] := rfl
theorem mov_e2 {w0 w1 w2 w3 w4 w5 w6 w7 w8 w9 w10 w11 w12 w13 w14 w15 : Nat} : movd 2 [w0, w1, w2, w3, w4, w5, w6, w7, w8, w9, w10, w11, w12, w13, w14, w15] = [w2, w3, w0, w1, w6, w7, w4, w5, w10, w11, w8, w9, w14, w15, w12, w13] := rfl
theorem mov_e3 {w0 w1 w2 w3 w4 w5 w6 w7 w8 w9 w10 w11 w12 w13 w14 w15 : Nat} : movd 3 [w0, w1, w2, w3, w4, w5, w6, w7, w8, w9, w10, w11, w12, w13, w14, w15] = [w3, w0, w1, w2, w7, w4, w5, w6, w11, w8, w9, w10, w15, w12, w13, w14] := rfl
theorem gtr_movd (f : Wd4 → Wd4) {ws : List Nat} {b : Nat} (h : ws.length = 16) (hb : b < 4) : gtr f DIAS (gtr f COLS (movd b ws)) = movd b (gtr f DIAS (gtr f COLS ws)) := (by exact HA.Wq.get : @HA.Wq (gtr f DIAS (gtr f COLS (movd b ws)) = movd b (gtr f DIAS (gtr f COLS ws))) (by
  match ws, h with
  | [w0, w1, w2, w3, w4, w5, w6, w7, w8, w9, w10, w11, w12, w13, w14, w15], _ =>
    obtain rfl | rfl | rfl | rfl : b = 0 ∨ b = 1 ∨ b = 2 ∨ b = 3 := by omega
    · rw [mov_e0, cols_e, dias_e, mov_e0]
    · rw [mov_e1, cols_e, dias_e, cols_e, dias_e, mov_e1]
    · rw [mov_e2, cols_e, dias_e, cols_e, dias_e, mov_e2]
    · rw [mov_e3, cols_e, dias_e, cols_e, dias_e, mov_e3]))
theorem drs_movd {ws : List Nat} {b : Nat} (h : St ws) (hb : b < 4) : ∀ {n : Nat}, drs n (movd b ws) = movd b (drs n ws)
  | 0 => by rw [drs0, drs0]
  | n + 1 => by
    rw [drsS, drsS, drs_movd h hb, dr_eq, dr_eq]
    exact gtr_movd qrt (drs_st h).1 hb
/-- quarters in any order -/
theorem fold_perm {f : Wd4 → Wd4} {L : Nat → Wd4} (hL : ∀ i, i < 4 → ∀ j, j < 4 → i ≠ j → Far (L i) (L j)) {ms ns : List Nat} (h : ms.Perm ns) (hn : ∀ n ∈ ns, n < 4) (ws : List Nat) : ms.foldl (fun us i => gat f us (L i)) ws = ns.foldl (fun us i => gat f us (L i)) ws := (by exact HA.Wq.get : @HA.Wq (ms.foldl (fun us i => gat f us (L i)) ws = ns.foldl (fun us i => gat f us (L i)) ws) (by
  refine List.Perm.foldl_eq' h (fun x hx y hy us => ?_) ws
  by_cases e : x = y
  · subst e; rfl
  · exact (gat_comm (hL x (hn x (h.mem_iff.mp hx)) y (hn y (h.mem_iff.mp hy)) e))))
end Sh
/-! PP: what any value is: what each def promises -/
namespace Sh
open PySem PySem.Spec L2 HA
/-- a value without things that may change -/
def Any1 : D → Prop | .frz _ => False | .ref _ => False | .ty _ => False | _ => True
def isIntQ : D → Bool | .int _ => true | _ => false
def numQ : D → Bool | .int i => decide (0 ≤ i) | _ => false
def belQ (x : D) (b : Int) : Bool := match x with | .int i => decide (0 ≤ i ∧ i < b) | _ => false
def sp_is_integer (z : Wd) : ASp := fun ds M Q _ => ∃ x : D, ds = [x] ∧ Any1 x ∧ Q (.bl (isIntQ x)) M
def sp_is_below (z : Wd) : ASp := fun ds M Q _ => ∃ (x : D) (b : Int), ds = [x, .int b] ∧ Any1 x ∧ Q (.bl (belQ x b)) M
end Sh
/-! readings of shared defs (printed by gen4.py) -/
namespace Sh
open PySem PySem.Spec L2 HA
/-! def is_integer -/
abbrev N_is_integer : List Str := ["value"]
abbrev ps_is_integer : List Str := ["value"]
abbrev t_is_integer_1 (z : Wd) : ASt := (aRet (aAndV (aCB cIsi (aCons (aVar 0) (aCons (aC (.ty "int")) aNil))) (aNotV (aCB cIsi (aCons (aVar 0) (aCons (aC (.ty "bool")) aNil))))))
abbrev t_is_integer (z : Wd) : ASt := (t_is_integer_1 z)
/-! def is_below -/
abbrev N_is_below : List Str := ["value", "bound"]
abbrev ps_is_below : List Str := ["value", "bound"]
abbrev t_is_below_1 (z : Wd) : ASt := (aRet (aAndV (aCall (sp_is_integer z) 1 0 [0] (aCons (aVar 0) aNil) aNil) (aChain oLe oLt (aC (.int 0)) (aVar 0) (aVar 1))))
abbrev t_is_below (z : Wd) : ASt := (t_is_below_1 z)
end Sh
set_option maxHeartbeats 1000000
namespace Sh
open PySem PySem.Spec L2 HA
theorem len_is_integer (z : Wd) : ∀ ds M Q E, sp_is_integer z ds M Q E → ds.length = ps_is_integer.length := by
  intro ds M Q E h; repeat (first | (obtain ⟨rfl, _⟩ := h; rfl) | (obtain ⟨_, h⟩ := h))
theorem v_is_integer (z : Wd) : ∀ ds M Q E, sp_is_integer z ds M Q E → t_is_integer z (pureE M Q E) (startA N_is_integer ds) M := (by exact HA.Wq.get : @HA.Wq (∀ ds M Q E, sp_is_integer z ds M Q E → t_is_integer z (pureE M Q E) (startA N_is_integer ds) M) (by
  intro ds M Q E ⟨x, h, hx, q⟩
  subst h
  cases x with
  | frz _ => exact hx.elim
  | ref _ => exact hx.elim
  | ty _ => exact hx.elim
  | lst l =>
    walk_at "start"; walk_at "r"
    refine i_isiF (S := "list") ⟨rfl, _, rfl⟩ (by decide) (by decide) ?_
    walk_at "r"; exact q
  | _ => walk_at "start"; walk_at "r"; exact q))
theorem c_is_integer (z : Wd) {x : D} {M : Mem} {Q : DK} {E : AX} (hx : Any1 x) (h : Q (.bl (isIntQ x)) M) : sp_is_integer z [x] M Q E := ⟨x, rfl, hx, h⟩
theorem len_is_below (z : Wd) : ∀ ds M Q E, sp_is_below z ds M Q E → ds.length = ps_is_below.length := by
  intro ds M Q E h; repeat (first | (obtain ⟨rfl, _⟩ := h; rfl) | (obtain ⟨_, h⟩ := h))
theorem v_is_below (z : Wd) : ∀ ds M Q E, sp_is_below z ds M Q E → t_is_below z (pureE M Q E) (startA N_is_below ds) M := (by exact HA.Wq.get : @HA.Wq (∀ ds M Q E, sp_is_below z ds M Q E → t_is_below z (pureE M Q E) (startA N_is_below ds) M) (by
  intro ds M Q E ⟨x, b, h, hx, q⟩
  subst h
  walk_at "start"
  walk_at "r"
  refine c_is_integer z hx ?_
  cases x with
  | frz _ => exact hx.elim
  | ref _ => exact hx.elim
  | ty _ => exact hx.elim
  | int i =>
    unfold isIntQ
    walk_at "r"
    unfold belQ at q
    dsimp only at q
    refine ⟨fun h => ?_, fun h => ?_⟩
    · have h := of_decide_eq_true h
      walk_at "r"
      rw [show decide (i < b) = decide (0 ≤ i ∧ i < b) from decide_eq_decide.mpr ⟨fun x => ⟨h, x⟩, fun x => x.2⟩]
      exact q
    · have h := of_decide_eq_false h
      rw [decide_eq_false (fun x => h x.1)] at q
      walk_at "r"
      exact q
  | _ => unfold isIntQ; walk_at "r"; exact q))
theorem c_is_below (z : Wd) {x : D} {b : Int} {M : Mem} {Q : DK} {E : AX} (hx : Any1 x) (h : Q (.bl (belQ x b)) M) : sp_is_below z [x, .int b] M Q E := ⟨x, b, rfl, hx, h⟩
end Sh
/-! PV: any values as octets: what each def promises -/
namespace Sh
open PySem PySem.Spec L2 HA
/-- a value whose things, if it is a tuple, do not change -/
def AnyT (x : D) : Prop := Any1 x ∧ ∀ xs, x = .tup xs → xs.length ≤ 100000 ∧ ∀ d ∈ xs, Any1 d
def wrongAt (s : Option Int) : Nat → List D → Option Int
  | _, [] => none
  | i, x :: r => if belQ x 256 = false ∨ s = some (i : Int) then some (i : Int) else wrongAt s (i + 1) r
/-- the first wrong place of things as octets -/
def wpl (s : Option Int) (xs : List D) : Option Int := match wrongAt s 0 xs with
  | some a => some a
  | none => match s with
    | some n => if (xs.length : Int) < n then some (xs.length : Int) else none
    | none => none
def opI : Option Int → D | none => .non | some i => .int i
/-- why any value is no octets -/
def ndO (s : Option Int) (x : D) : Option Int := match x with | .tup xs => wpl s xs | _ => some (-1)
def sp_wrong_place (z : Wd) : ASp := fun ds M Q _ => ∃ (xs : List D) (s : Option Int), ds = [.tup xs, opI s] ∧ xs.length ≤ 100000 ∧ (∀ d ∈ xs, Any1 d) ∧ Q (opI (wpl s xs)) M
def sp_is_octets (z : Wd) : ASp := fun ds M Q _ => ∃ x : D, ds = [x] ∧ AnyT x ∧ Q (.bl (ndO none x).isNone) M
def sp_need_octets (z : Wd) : ASp := fun ds M Q E => ∃ (x : D) (s : Option Int), ds = [x, opI s] ∧ AnyT x ∧ (ndO s x = none → Q .non M) ∧ (∀ a, ndO s x = some a → E (z.C 1) [("at", .int a)] M)
end Sh
/-! readings of shared defs (printed by gen4.py) -/
namespace Sh
open PySem PySem.Spec L2 HA
/-! def wrong_place -/
abbrev N_wrong_place : List Str := ["value", "size", "at", "thing"]
abbrev ps_wrong_place : List Str := ["value", "size"]
abbrev t_wrong_place_1 (z : Wd) : ASt := (aRet (aVar 2))
abbrev t_wrong_place_2 (z : Wd) : ASt := (aIf (aOrT (aNotT (aTruth (aCall (sp_is_below z) 2 0 [0, 1] (aCons (aVar 3) (aCons (aC (.int 256)) aNil)) aNil))) (aTest (aOp oEq (aVar 2) (aVar 1)))) (t_wrong_place_1 z) aNext)
abbrev t_wrong_place_3 (z : Wd) : ASt := (aFor (aEnumT (aCons (aVar 0) aNil)) (agTup 2 (agCons (agName 2) (agCons (agName 3) agNil))) (t_wrong_place_2 z))
abbrev t_wrong_place_4 (z : Wd) : ASt := (aRet (aIfE (aAndT (aTest (aOp oIsNot (aVar 1) (aC .non))) (aTest (aOp oLt (aCB cLen (aCons (aVar 0) aNil)) (aVar 1)))) (aCB cLen (aCons (aVar 0) aNil)) (aC .non)))
abbrev t_wrong_place_5 (z : Wd) : ASt := aSeq (t_wrong_place_3 z) (t_wrong_place_4 z)
abbrev t_wrong_place (z : Wd) : ASt := (t_wrong_place_5 z)
/-! def is_octets -/
abbrev N_is_octets : List Str := ["value"]
abbrev ps_is_octets : List Str := ["value"]
abbrev t_is_octets_1 (z : Wd) : ASt := (aRet (aAndV (aCB cIsi (aCons (aVar 0) (aCons (aC (.ty "tuple")) aNil))) (aOp oIs (aCall (sp_wrong_place z) 2 0 [0, 1] (aCons (aVar 0) (aCons (aC .non) aNil)) aNil) (aC .non))))
abbrev t_is_octets (z : Wd) : ASt := (t_is_octets_1 z)
/-! def need_octets -/
abbrev N_need_octets : List Str := ["value", "size", "at"]
abbrev ps_need_octets : List Str := ["value", "size"]
abbrev t_need_octets_1 (z : Wd) : ASt := (aRaise (z.C 1) "at" (aNeg (aC (.int 1))))
abbrev t_need_octets_2 (z : Wd) : ASt := (aIf (aNotT (aTruth (aCB cIsi (aCons (aVar 0) (aCons (aC (.ty "tuple")) aNil))))) (t_need_octets_1 z) aNext)
abbrev t_need_octets_3 (z : Wd) : ASt := (aAsg (aCall (sp_wrong_place z) 2 0 [0, 1] (aCons (aVar 0) (aCons (aVar 1) aNil)) aNil) (agName 2))
abbrev t_need_octets_4 (z : Wd) : ASt := (aRaise (z.C 1) "at" (aVar 2))
abbrev t_need_octets_5 (z : Wd) : ASt := (aIf (aTest (aOp oIsNot (aVar 2) (aC .non))) (t_need_octets_4 z) aNext)
abbrev t_need_octets_6 (z : Wd) : ASt := aSeq (t_need_octets_3 z) (t_need_octets_5 z)
abbrev t_need_octets_7 (z : Wd) : ASt := aSeq (t_need_octets_2 z) (t_need_octets_6 z)
abbrev t_need_octets (z : Wd) : ASt := (t_need_octets_7 z)
end Sh
set_option maxHeartbeats 1000000
namespace Sh
open PySem PySem.Spec L2 HA
theorem eq_inN {M : Mem} {Q : DK} {i : Int} (h : Q (.bl false) M) : bEq false (.int i) .non M Q := ⟨.int i, .none, .int i, .non, rfl, rfl, by simpa [PyData.eqv] using h⟩
theorem enumD_all (xs : List D) : enumD xs = (List.range xs.length).map fun i => .tup [.int (i : Nat), xs.getD i .non] := (by exact HA.Wq.get : @HA.Wq (enumD xs = (List.range xs.length).map fun i => .tup [.int (i : Nat), xs.getD i .non]) (by
  refine List.ext_getElem? fun i => ?_
  by_cases h : i < xs.length
  · rw [enumD_get h, List.getElem?_map, List.getElem?_range h, List.getElem?_eq_getElem h]
    show some (D.tup [.int i, xs[i]]) = some (D.tup [.int i, xs.getD i .non])
    rw [List.getD_eq_getElem?_getD, List.getElem?_eq_getElem h]; rfl
  · rw [List.getElem?_eq_none (by rw [enumD_len]; omega), List.getElem?_eq_none (by rw [List.length_map, List.length_range]; omega)]))
theorem wrongAt_drop {s : Option Int} {xs : List D} {i : Nat} (h : i < xs.length) : wrongAt s i (xs.drop i) = if belQ (xs.getD i .non) 256 = false ∨ s = some (i : Int) then some (i : Int) else wrongAt s (i + 1) (xs.drop (i + 1)) := by
  rw [List.drop_eq_getElem_cons h, List.getD_eq_getElem?_getD, List.getElem?_eq_getElem h]; rfl
theorem len_wrong_place (z : Wd) : ∀ ds M Q E, sp_wrong_place z ds M Q E → ds.length = ps_wrong_place.length := by
  intro ds M Q E h; repeat (first | (obtain ⟨rfl, _⟩ := h; rfl) | (obtain ⟨_, h⟩ := h))
theorem v_wrong_place (z : Wd) : ∀ ds M Q E, sp_wrong_place z ds M Q E → t_wrong_place z (pureE M Q E) (startA N_wrong_place ds) M := (by exact HA.Wq.get : @HA.Wq (∀ ds M Q E, sp_wrong_place z ds M Q E → t_wrong_place z (pureE M Q E) (startA N_wrong_place ds) M) (by
  intro ds M Q E ⟨xs, s, h, hl, ha, q⟩
  subst h
  walk_at "start"
  walk_at "r"
  refine for_list (l := List.range xs.length) (enc := fun i => .tup [.int (i : Nat), xs.getD i .non]) (fun pre σ M' => M' = M ∧ wrongAt s 0 xs = wrongAt s pre.length (xs.drop pre.length) ∧ ∃ o2 o3 : Option D, σ = [some (.tup xs), some (opI s), o2, o3]) (enumD_all xs) ⟨rfl, by simp, _, _, rfl⟩ ?_ ?_
  · rintro pre i rest e σ M' ⟨rfl, hp, o2, o3, rfl⟩
    have hi : i < xs.length := by
      have : i ∈ List.range xs.length := by rw [e]; simp
      exact List.mem_range.mp this
    have hpi : pre.length = i := by
      have := congrArg (fun l => l[pre.length]?) e
      rw [List.getElem?_append_right (Nat.le_refl _), Nat.sub_self] at this
      simp only [List.getElem?_cons_zero] at this
      have := (List.getElem?_eq_some_iff.mp this).2
      simpa using this
    rw [hpi, wrongAt_drop hi] at hp
    have hm : Any1 (xs.getD i .non) := by
      rw [List.getD_eq_getElem?_getD, List.getElem?_eq_getElem hi]
      exact ha _ (List.getElem_mem hi)
    generalize xs.getD i .non = v at *
    walk_at "r"
    refine c_is_below z hm ?_
    cases hv : belQ v 256
    · rw [if_pos (.inl hv)] at hp
      unfold wpl at q
      rw [hp] at q
      walk_at "r"
      exact q
    · cases s with
      | none =>
        rw [if_neg (by simp [hv])] at hp
        unfold opI
        walk_at "r"
        refine eq_inN ?_
        walk_at "r"
        exact ⟨rfl, by rw [hp, List.length_append, hpi]; rfl, _, _, rfl⟩
      | some n =>
        unfold opI
        walk_at "r"
        by_cases hn : (i : Int) = n
        · rw [if_pos (.inr (by rw [hn]))] at hp
          unfold wpl at q
          rw [hp] at q
          walk_at "r"
          exact q
        · rw [if_neg (fun h => h.elim (fun h => by rw [hv] at h; exact nomatch h) fun h => hn (by injection h with h; exact h.symm))] at hp
          walk_at "r"
          exact ⟨rfl, by rw [hp, List.length_append, hpi]; rfl, _, _, rfl⟩
  · rintro σ M' ⟨rfl, hp, o2, o3, rfl⟩
    have e0 : wrongAt s 0 xs = none := by rw [hp, List.length_range, List.drop_length]; rfl
    unfold wpl at q
    rw [e0] at q
    cases s with
    | none => unfold opI; walk_at "r"; exact q
    | some n =>
      unfold opI
      walk_at "r"
      dsimp only at q
      refine br (fun h => ?_) (fun h => ?_)
      · rw [if_pos (by omega)] at q
        walk_at "r"
        exact q
      · rw [if_neg (by omega)] at q
        walk_at "r"
        exact q))
theorem c_wrong_place (z : Wd) {xs : List D} {s : Option Int} {d : D} {M : Mem} {Q : DK} {E : AX} (hs : d = opI s) (hl : xs.length ≤ 100000) (ha : ∀ d ∈ xs, Any1 d) (h : Q (opI (wpl s xs)) M) : sp_wrong_place z [.tup xs, d] M Q E := ⟨xs, s, by rw [hs], hl, ha, h⟩
theorem isNon_opI {o : Option Int} : isNon (opI o) = o.isNone := by cases o <;> rfl
theorem len_is_octets (z : Wd) : ∀ ds M Q E, sp_is_octets z ds M Q E → ds.length = ps_is_octets.length := by
  intro ds M Q E h; repeat (first | (obtain ⟨rfl, _⟩ := h; rfl) | (obtain ⟨_, h⟩ := h))
theorem v_is_octets (z : Wd) : ∀ ds M Q E, sp_is_octets z ds M Q E → t_is_octets z (pureE M Q E) (startA N_is_octets ds) M := (by exact HA.Wq.get : @HA.Wq (∀ ds M Q E, sp_is_octets z ds M Q E → t_is_octets z (pureE M Q E) (startA N_is_octets ds) M) (by
  intro ds M Q E ⟨x, h, ⟨ha, ht⟩, q⟩
  subst h
  walk_at "start"
  cases x with
  | frz _ => exact ha.elim
  | ref _ => exact ha.elim
  | ty _ => exact ha.elim
  | tup xs =>
    obtain ⟨hl, hm⟩ := ht xs rfl
    walk_at "r"
    refine c_wrong_place z (s := none) rfl hl hm ?_
    unfold ndO at q
    walk_at "r"
    rw [Bool.false_xor, isNon_opI]
    exact q
  | lst l =>
    walk_at "r"
    refine i_isiF (S := "list") ⟨rfl, _, rfl⟩ (by decide) (by decide) ?_
    walk_at "r"; exact q
  | _ => walk_at "r"; exact q))
theorem c_is_octets (z : Wd) {x : D} {M : Mem} {Q : DK} {E : AX} (hx : AnyT x) (h : Q (.bl (ndO none x).isNone) M) : sp_is_octets z [x] M Q E := ⟨x, rfl, hx, h⟩
theorem len_need_octets (z : Wd) : ∀ ds M Q E, sp_need_octets z ds M Q E → ds.length = ps_need_octets.length := by
  intro ds M Q E h; repeat (first | (obtain ⟨rfl, _⟩ := h; rfl) | (obtain ⟨_, h⟩ := h))
theorem v_need_octets (z : Wd) (ok : ErrR z 1 "at") : ∀ ds M Q E, sp_need_octets z ds M Q E → t_need_octets z (pureE M Q E) (startA N_need_octets ds) M := (by exact HA.Wq.get : @HA.Wq (∀ ds M Q E, sp_need_octets z ds M Q E → t_need_octets z (pureE M Q E) (startA N_need_octets ds) M) (by
  intro ds M Q E ⟨x, s, h, ⟨ha, ht⟩, q, qx⟩
  subst h
  walk_at "start"
  cases x with
  | frz _ => exact ha.elim
  | ref _ => exact ha.elim
  | ty _ => exact ha.elim
  | tup xs =>
    obtain ⟨hl, hm⟩ := ht xs rfl
    walk_at "r"
    refine c_wrong_place z (s := s) rfl hl hm ?_
    unfold ndO at q qx
    dsimp only at q qx
    cases hw : wpl s xs with
    | none => unfold opI; walk_at "r"; exact q hw
    | some a => unfold opI; walk_at "r"; exact qx a hw
  | lst l =>
    walk_at "r"
    refine i_isiF (S := "list") ⟨rfl, _, rfl⟩ (by decide) (by decide) ?_
    walk_at "r"; exact qx _ rfl
  | _ => walk_at "r"; exact qx _ rfl))
theorem c_need_octets (z : Wd) {x : D} {s : Option Int} {d : D} {M : Mem} {Q : DK} {E : AX} (hs : d = opI s) (hx : AnyT x) (h : ndO s x = none → Q .non M) (hE : ∀ a, ndO s x = some a → E (z.C 1) [("at", .int a)] M) : sp_need_octets z [x, d] M Q E := ⟨x, s, by rw [hs], hx, h, hE⟩
end Sh
namespace K15
open PySem PySem.Spec L2 HA Sh
abbrev sp_law_source (z : Wd) : ASp := spSrc
abbrev sp_law_any (z : Wd) : ASp := spAny
abbrev sp_law_of (z : Wd) : ASp := spOf
def sp_law_places (z : Wd) : ASp := fun ds M Q _ => ∃ x : D, ds = [x] ∧ Deal M x ∧ ∀ i j k l : Nat, In 16 (i, j, k, l) → Dis (i, j, k, l) → Q (lI [(i : Int), j, k, l]) M
/-- whether any value is a row of n numbers below b -/
def rowQ (n : Nat) (b : Int) (x : D) : Bool := match x with | .tup xs => decide (xs.length = n) && xs.all (fun d => belQ d b) | _ => false
def sp_law_is_row (z : Wd) : ASp := fun ds M Q _ => ∃ (x : D) (n : Nat) (b : Int), ds = [x, .int n, .int b] ∧ AnyT x ∧ Q (.bl (rowQ n b x)) M
def sp_is_state (z : Wd) : ASp := fun ds M Q _ => ∃ x : D, ds = [x] ∧ AnyT x ∧ Q (.bl (rowQ 16 4294967296 x)) M
def sp_is_cipher_key (z : Wd) : ASp := fun ds M Q _ => ∃ x : D, ds = [x] ∧ AnyT x ∧ Q (.bl (rowQ 32 256 x)) M
def sp_is_nonce (z : Wd) : ASp := fun ds M Q _ => ∃ x : D, ds = [x] ∧ AnyT x ∧ Q (.bl (rowQ 12 256 x)) M
/-- any value, that is no tuple of another size than n - 1, n, n + 1 or below 2 -/
def Bn (n : Nat) (x : D) : Prop := AnyT x ∧ ∀ xs, x = .tup xs → xs.length = n ∨ xs.length + 1 = n ∨ xs.length = n + 1 ∨ xs.length ≤ 1
def sp_law_bent (z : Wd) : ASp := fun ds M Q _ => ∃ (x : D) (n : Nat) (b : Int), ds = [x, .int n, .int b] ∧ Deal M x ∧ 2 ≤ n ∧ n ≤ 64 ∧ 2 ≤ b ∧ b ≤ 4294967296 ∧ ∀ v : D, Bn n v → Q v M
def sp_law_kinds_right (z : Wd) : ASp := fun ds M Q _ => ∃ x : D, ds = [x] ∧ Deal M x ∧ Q (.bl true) M
def sp_law_quarters_right (z : Wd) : ASp := fun ds M Q _ => ∃ (x : D) (ws : List Nat), ds = [x, tW ws] ∧ Deal M x ∧ St ws ∧ Q (.bl true) M
def sp_law (z : Wd) : ASp := spLaw
end K15
/-! the readings and derivations (printed by gen4.py) -/
namespace K15
open PySem PySem.Spec L2 HA
abbrev topS (i : Nat) : Stmt := PySem.Challenge.pw_putinonce_k15_quarters_and_states.main.body.getD i (.Pass ⟨0, 0, 0, 0⟩)
abbrev st_is_integer : Stmt := topS 1
abbrev st_is_below : Stmt := topS 2
abbrev st_wrong_place : Stmt := topS 4
abbrev st_is_octets : Stmt := topS 5
abbrev st_is_cipher_key : Stmt := topS 10
abbrev st_is_nonce : Stmt := topS 11
abbrev st_is_state : Stmt := topS 12
abbrev st_quarter : Stmt := topS 13
abbrev st_unquarter : Stmt := topS 14
abbrev st_quarter_at : Stmt := topS 15
abbrev st_turn : Stmt := topS 16
abbrev st_law_source : Stmt := topS 18
abbrev st_law_any : Stmt := topS 19
abbrev st_law_of : Stmt := topS 20
abbrev st_law_word : Stmt := topS 21
abbrev st_law_quarter : Stmt := topS 22
abbrev st_law_bent : Stmt := topS 23
abbrev st_law_is_row : Stmt := topS 24
abbrev st_law_kinds_right : Stmt := topS 25
abbrev st_law_places : Stmt := topS 26
abbrev st_law_quarters_right : Stmt := topS 27
abbrev st_law : Stmt := topS 28
/-- no built-in is hidden -/
structure Nb (mg : Str → Option Value) : Prop where
  isinstance_ : mg "isinstance" = none
  int_ : mg "int" = none
  bool_ : mg "bool" = none
  enumerate_ : mg "enumerate" = none
  len_ : mg "len" = none
  tuple_ : mg "tuple" = none
  all_ : mg "all" = none
  list_ : mg "list" = none
  abs_ : mg "abs" = none
  range_ : mg "range" = none
  repr_ : mg "repr" = none
/-! def _law_source -/
abbrev N_law_source : List Str := ["script", "salt", "cell", "cells", "blend"]
abbrev ps_law_source : List Str := ["script", "salt"]
theorem sc_law_source : FnScope N_law_source ps_law_source (defScope st_law_source) := ⟨rfl, rfl, rfl, by decide +kernel, rfl, by decide +kernel, by decide +kernel⟩
abbrev t_law_source_1 (z : Wd) : ASt := (aAsg (aLcF (aWalk (aSlF (aVar 0) aNoPart (aPart (aC (.int 63))))) (agName 2) aYes (aCB (c1I absI) (aCons (aCB cInt (aCons (aVar 2) aNil)) aNil)) [2]) (agName 3))
abbrev t_law_source_2 (z : Wd) : ASt := (aAsg (aOp bAddF (aC (.int 2017)) (aOp oMul (aC (.int 6007)) (aVar 1))) (agName 4))
abbrev t_law_source_3 (z : Wd) : ASt := (aAsg (aOp oMod (aCB cInt (aCons (aOp bAddF (aOp bAddF (aOp oMul (aVar 4) (aC (.int 48271))) (aOp oMod (aVar 2) (aC (.int 2147483549)))) (aC (.int 37))) aNil)) (aC (.int 2147483647))) (agName 4))
abbrev t_law_source_4 (z : Wd) : ASt := (aFor (aWalk (aVar 3)) (agName 2) (t_law_source_3 z))
abbrev t_law_source_5 (z : Wd) : ASt := (aRet (aLst (aCons (aRev (aLcF (aWalk (aVar 3)) (agName 2) (aTest (aOp oGe (aVar 2) (aOp oPow (aC (.int 10)) (aC (.int 18))))) (aVar 2) [2])) (aCons (aVar 4) aNil))))
abbrev t_law_source_6 (z : Wd) : ASt := aSeq (t_law_source_4 z) (t_law_source_5 z)
abbrev t_law_source_7 (z : Wd) : ASt := aSeq (t_law_source_2 z) (t_law_source_6 z)
abbrev t_law_source_8 (z : Wd) : ASt := aSeq (t_law_source_1 z) (t_law_source_7 z)
abbrev t_law_source (z : Wd) : ASt := (t_law_source_8 z)
theorem d_law_source {P : Program} {w : World} {z : Wd} {mg : Str → Option Value} {base : Heap} {f : Addr} (nb : Nb mg)  : DefD P w z.K mg base N_law_source "_law_source" st_law_source f 0 (t_law_source z) := fun cdv A outer s H E B W hr hg tk hp => by
  have hu := hr.un
  replace hu : (BX P w z.K mg base N_law_source "_law_source" st_law_source f cdv A outer s H E).A.units + 64 < cLine := by omega
  exact (qss_cons (qs_setLcF 3 (own := [("cell", 2)]) rfl sc_law_source.nd (qi_seq (qe_sliceF (qe_var 0) qo_none (qo_some qe_int))) (blkOk_by (N := N_law_source) (sc := defScope st_law_source) (by decide +kernel)) (fun _ h => h) (fun _ _ _ _ _ => (qg_name 2 sc_law_source.nd)) (fun _ _ _ _ _ => qts_nil) (fun _ _ _ _ _ => (qe_callB cb_abs rfl nb.abs_ bB_abs (qa_cons (qe_callT ct_int rfl nb.int_ bT_int (qa_cons (qe_var 2) qa_nil)) qa_nil))))
    (qss_cons (qs_set 4 sc_law_source.nd (qe_addF qe_int (qe_mul qe_int (qe_var 1))))
    (qss_cons (qs_for hp rfl (qi_seq (qe_var 3)) (qg_name 2 sc_law_source.nd) (qss_one (qs_set 4 sc_law_source.nd (qe_mod (qe_callT ct_int rfl nb.int_ bT_int (qa_cons (qe_addF (qe_addF (qe_mul (qe_var 4) qe_int) (qe_mod (qe_var 2) qe_int)) qe_int) qa_nil)) qe_int))))
    (qss_one (qs_ret (qe_lst (qa_cons (qe_rev (qe_lcF (own := [("cell", 2)]) rfl sc_law_source.nd (qi_seq (qe_var 3)) (blkOk_by (N := N_law_source) (sc := defScope st_law_source) (by decide +kernel)) (fun _ h => h) (fun _ _ _ _ _ => (qg_name 2 sc_law_source.nd)) (fun _ _ _ _ _ => (qts_one (qt_cmp c_ge (qe_var 2) (qe_pow qe_int qe_int)))) (fun _ _ _ _ _ => (qe_var 2)))) (qa_cons (qe_var 4) qa_nil))))))))
/-! def _law_any -/
abbrev N_law_any : List Str := ["deal", "bound", "rest"]
abbrev ps_law_any : List Str := ["deal", "bound"]
theorem sc_law_any : FnScope N_law_any ps_law_any (defScope st_law_any) := ⟨rfl, rfl, rfl, by decide +kernel, rfl, by decide +kernel, by decide +kernel⟩
abbrev t_law_any_1 (z : Wd) : ASt := (aDrop (aMt0 mPop (aOp bIx (aVar 0) (aC (.int 0)))))
abbrev t_law_any_2 (z : Wd) : ASt := (aWhile (aAndT (aTest (aOp oNe (aOp bIx (aVar 0) (aC (.int 0))) (aLstF aNil))) (aTest (aOp oEq (aOp bIx (aOp bIx (aVar 0) (aC (.int 0))) (aNeg (aC (.int 1)))) (aC (.int 0))))) (t_law_any_1 z))
abbrev t_law_any_3 (z : Wd) : ASt := (aAsg (aCB cInt (aCons (aMt0 mPop (aOp bIx (aVar 0) (aC (.int 0)))) aNil)) (agName 2))
abbrev t_law_any_4 (z : Wd) : ASt := (aDrop (aMt mAppend (aOp bIx (aVar 0) (aC (.int 0))) (aCons (aOp oDiv (aVar 2) (aVar 1)) aNil)))
abbrev t_law_any_5 (z : Wd) : ASt := (aRet (aOp oMod (aVar 2) (aVar 1)))
abbrev t_law_any_6 (z : Wd) : ASt := aSeq (t_law_any_4 z) (t_law_any_5 z)
abbrev t_law_any_7 (z : Wd) : ASt := aSeq (t_law_any_3 z) (t_law_any_6 z)
abbrev t_law_any_8 (z : Wd) : ASt := (aIf (aTest (aOp oNe (aOp bIx (aVar 0) (aC (.int 0))) (aLstF aNil))) (t_law_any_7 z) aNext)
abbrev t_law_any_9 (z : Wd) : ASt := (aAsg (aOp oMod (aCB cInt (aCons (aOp bAddF (aOp oMul (aOp bIx (aVar 0) (aC (.int 1))) (aC (.int 48271))) (aC (.int 37))) aNil)) (aC (.int 2147483647))) (agSub (aVar 0) (aC (.int 1))))
abbrev t_law_any_10 (z : Wd) : ASt := (aRet (aOp oMod (aCB cInt (aCons (aOp oDiv (aOp bIx (aVar 0) (aC (.int 1))) (aC (.int 64))) aNil)) (aVar 1)))
abbrev t_law_any_11 (z : Wd) : ASt := aSeq (t_law_any_9 z) (t_law_any_10 z)
abbrev t_law_any_12 (z : Wd) : ASt := aSeq (t_law_any_8 z) (t_law_any_11 z)
abbrev t_law_any_13 (z : Wd) : ASt := aSeq (t_law_any_2 z) (t_law_any_12 z)
abbrev t_law_any (z : Wd) : ASt := (t_law_any_13 z)
theorem d_law_any {P : Program} {w : World} {z : Wd} {mg : Str → Option Value} {base : Heap} {f : Addr} (nb : Nb mg)  : DefD P w z.K mg base N_law_any "_law_any" st_law_any f 0 (t_law_any z) := fun cdv A outer s H E B W hr hg tk hp => by
  have hu := hr.un
  replace hu : (BX P w z.K mg base N_law_any "_law_any" st_law_any f cdv A outer s H E).A.units + 64 < cLine := by omega
  exact (qss_cons (qs_while hp (qt_w (qw_and (qt_cmp (c_ne hu) (qe_ix (qe_var 0) qe_int) (qe_lstF qa_nil)) (qw_and1 (qt_cmp (c_eq hu) (qe_ix (qe_ix (qe_var 0) qe_int) (qe_neg qe_int)) qe_int)))) (qss_one (qs_expr (qe_pop (qe_ix (qe_var 0) qe_int)))))
    (qss_cons (qs_if (qt_cmp (c_ne hu) (qe_ix (qe_var 0) qe_int) (qe_lstF qa_nil)) (qss_cons (qs_set 2 sc_law_any.nd (qe_callT ct_int rfl nb.int_ bT_int (qa_cons (qe_pop (qe_ix (qe_var 0) qe_int)) qa_nil)))
    (qss_cons (qs_expr (qe_append (qe_ix (qe_var 0) qe_int) (qa_cons (qe_fdiv (qe_var 2) (qe_var 1)) qa_nil)))
    (qss_one (qs_ret (qe_mod (qe_var 2) (qe_var 1)))))) qss_nil)
    (qss_cons (qs_asg (qe_mod (qe_callT ct_int rfl nb.int_ bT_int (qa_cons (qe_addF (qe_mul (qe_ix (qe_var 0) qe_int) qe_int) qe_int) qa_nil)) qe_int) (qg_sub (qe_var 0) qe_int))
    (qss_one (qs_ret (qe_mod (qe_callT ct_int rfl nb.int_ bT_int (qa_cons (qe_fdiv (qe_ix (qe_var 0) qe_int) qe_int) qa_nil)) (qe_var 1)))))))
/-! def _law_word -/
theorem sc_law_word : FnScope Sh.N_law_word Sh.ps_law_word (defScope st_law_word) := ⟨rfl, rfl, rfl, by decide +kernel, rfl, by decide +kernel, by decide +kernel⟩
theorem b_law_any_2 : Bds "_law_any" "_law_any" st_law_any ["deal", "bound"] 2 [] [0, 1] := fun _ _ _ _ _ _ us ws h1 h2 => match us, ws, h1, h2 with | [_, _], [], _, _ => rfl
theorem d_law_word {P : Program} {w : World} {z : Wd} {mg : Str → Option Value} {base : Heap} {f : Addr} (nb : Nb mg) (c_law_any : Cal P w z.K mg base 1 "_law_any" st_law_any ps_law_any (sp_law_any z)) : DefD P w z.K mg base Sh.N_law_word "_law_word" st_law_word f 1 (Sh.t_law_word z) := fun cdv A outer s H E B W hr hg tk hp => by
  have hu := hr.un
  replace hu : (BX P w z.K mg base Sh.N_law_word "_law_word" st_law_word f cdv A outer s H E).A.units + 64 < cLine := by omega
  exact (qss_cons (qs_set 1 sc_law_word.nd (qe_call c_law_any (hr.mono (by decide)) hg tk b_law_any_2 (qa_cons (qe_var 0) (qa_cons qe_int qa_nil)) qk_nil))
    (qss_cons (qs_if (qt_cmp c_lt (qe_var 1) qe_int) (qss_one (qs_ret (qe_ix (qe_lstF (qa_cons qe_int (qa_cons qe_int (qa_cons qe_int (qa_cons qe_int qa_nil))))) (qe_var 1)))) qss_nil)
    (qss_one (qs_ret (qe_addF (qe_mul (qe_call c_law_any (hr.mono (by decide)) hg tk b_law_any_2 (qa_cons (qe_var 0) (qa_cons qe_int qa_nil)) qk_nil) qe_int) (qe_call c_law_any (hr.mono (by decide)) hg tk b_law_any_2 (qa_cons (qe_var 0) (qa_cons qe_int qa_nil)) qk_nil))))))
/-! def _law_places -/
abbrev N_law_places : List Str := ["deal", "left", "found", "turn"]
abbrev ps_law_places : List Str := ["deal"]
theorem sc_law_places : FnScope N_law_places ps_law_places (defScope st_law_places) := ⟨rfl, rfl, rfl, by decide +kernel, rfl, by decide +kernel, by decide +kernel⟩
abbrev t_law_places_1 (z : Wd) : ASt := (aPar 1 2 (aCons (aListR (aC (.int 16))) (aCons (aLst aNil) aNil)))
abbrev t_law_places_2 (z : Wd) : ASt := (aDrop (aMt mAppend (aVar 2) (aCons (aMt mPopAt (aVar 1) (aCons (aCall (sp_law_any z) 2 0 [0, 1] (aCons (aVar 0) (aCons (aCB cLen (aCons (aVar 1) aNil)) aNil)) aNil) aNil)) aNil)))
abbrev t_law_places_3 (z : Wd) : ASt := (aFor (aRng1 (aCons (aC (.int 4)) aNil)) (agName 3) (t_law_places_2 z))
abbrev t_law_places_4 (z : Wd) : ASt := (aRet (aVar 2))
abbrev t_law_places_5 (z : Wd) : ASt := aSeq (t_law_places_3 z) (t_law_places_4 z)
abbrev t_law_places_6 (z : Wd) : ASt := aSeq (t_law_places_1 z) (t_law_places_5 z)
abbrev t_law_places (z : Wd) : ASt := (t_law_places_6 z)
theorem d_law_places {P : Program} {w : World} {z : Wd} {mg : Str → Option Value} {base : Heap} {f : Addr} (nb : Nb mg) (c_law_any : Cal P w z.K mg base 1 "_law_any" st_law_any ps_law_any (sp_law_any z)) : DefD P w z.K mg base N_law_places "_law_places" st_law_places f 1 (t_law_places z) := fun cdv A outer s H E B W hr hg tk hp => by
  have hu := hr.un
  replace hu : (BX P w z.K mg base N_law_places "_law_places" st_law_places f cdv A outer s H E).A.units + 64 < cLine := by omega
  exact (qss_cons (qs_par 1 2 rfl sc_law_places.nd (qa_cons (qe_listR rfl nb.list_ rfl nb.range_ qe_int) (qa_cons (qe_lst qa_nil) qa_nil)))
    (qss_cons (qs_for hp rfl (qi_range1 rfl nb.range_ (qa_cons qe_int qa_nil)) (qg_name 3 sc_law_places.nd) (qss_one (qs_expr (qe_append (qe_var 2) (qa_cons (qe_popAt (qe_var 1) (qa_cons (qe_call c_law_any (hr.mono (by decide)) hg tk b_law_any_2 (qa_cons (qe_var 0) (qa_cons (qe_callB cb_len rfl nb.len_ bB_len (qa_cons (qe_var 1) qa_nil)) qa_nil)) qk_nil) qa_nil)) qa_nil)))))
    (qss_one (qs_ret (qe_var 2)))))
/-! def _law_quarter -/
theorem sc_law_quarter : FnScope Sh.N_law_quarter Sh.ps_law_quarter (defScope st_law_quarter) := ⟨rfl, rfl, rfl, by decide +kernel, rfl, by decide +kernel, by decide +kernel⟩
theorem d_law_quarter {P : Program} {w : World} {z : Wd} {mg : Str → Option Value} {base : Heap} {f : Addr} (nb : Nb mg)  : DefD P w z.K mg base Sh.N_law_quarter "_law_quarter" st_law_quarter f 0 (Sh.t_law_quarter z) := fun cdv A outer s H E B W hr hg tk hp => by
  have hu := hr.un
  replace hu : (BX P w z.K mg base Sh.N_law_quarter "_law_quarter" st_law_quarter f cdv A outer s H E).A.units + 64 < cLine := by omega
  exact (qss_one (qs_for hp rfl (qi_seq (qe_lstF (qa_cons (qe_tup (qa_cons qe_int (qa_cons qe_int qa_nil))) (qa_cons (qe_tup (qa_cons qe_int (qa_cons qe_int qa_nil))) qa_nil)))) (qg_tup rfl (qgs_cons (qg_name 5 sc_law_quarter.nd) (qgs_cons (qg_name 6 sc_law_quarter.nd) qgs_nil))) (qss_cons (qs_asg (qe_mod (qe_callT ct_int rfl nb.int_ bT_int (qa_cons (qe_addF (qe_ix (qe_var 0) (qe_var 1)) (qe_ix (qe_var 0) (qe_var 2))) qa_nil)) qe_int) (qg_sub (qe_var 0) (qe_var 1)))
    (qss_cons (qs_set 7 sc_law_quarter.nd (qe_mul (qe_callT ct_int rfl nb.int_ bT_int (qa_cons (qe_xor (qe_ix (qe_var 0) (qe_var 4)) (qe_ix (qe_var 0) (qe_var 1))) qa_nil)) (qe_var 5)))
    (qss_cons (qs_asg (qe_addF (qe_mod (qe_var 7) qe_int) (qe_fdiv (qe_var 7) qe_int)) (qg_sub (qe_var 0) (qe_var 4)))
    (qss_cons (qs_asg (qe_mod (qe_callT ct_int rfl nb.int_ bT_int (qa_cons (qe_addF (qe_ix (qe_var 0) (qe_var 3)) (qe_ix (qe_var 0) (qe_var 4))) qa_nil)) qe_int) (qg_sub (qe_var 0) (qe_var 3)))
    (qss_cons (qs_set 7 sc_law_quarter.nd (qe_mul (qe_callT ct_int rfl nb.int_ bT_int (qa_cons (qe_xor (qe_ix (qe_var 0) (qe_var 2)) (qe_ix (qe_var 0) (qe_var 3))) qa_nil)) (qe_var 6)))
    (qss_one (qs_asg (qe_addF (qe_mod (qe_var 7) qe_int) (qe_fdiv (qe_var 7) qe_int)) (qg_sub (qe_var 0) (qe_var 2)))))))))))
/-! def quarter -/
theorem sc_quarter : FnScope Sh.N_quarter Sh.ps_quarter (defScope st_quarter) := ⟨rfl, rfl, rfl, by decide +kernel, rfl, by decide +kernel, by decide +kernel⟩
theorem d_quarter {P : Program} {w : World} {z : Wd} {mg : Str → Option Value} {base : Heap} {f : Addr} (nb : Nb mg) (g_MASK : ∃ t, mg "MASK" = some (.int 4294967295 t)) : DefD P w z.K mg base Sh.N_quarter "quarter" st_quarter f 0 (Sh.t_quarter z) := fun cdv A outer s H E B W hr hg tk hp => by
  have hu := hr.un
  replace hu : (BX P w z.K mg base Sh.N_quarter "quarter" st_quarter f cdv A outer s H E).A.units + 64 < cLine := by omega
  exact (qss_cons (qs_set 0 sc_quarter.nd (qe_and (qe_addF (qe_var 0) (qe_var 1)) (qe_gint g_MASK)))
    (qss_cons (qs_set 3 sc_quarter.nd (qe_xor (qe_var 3) (qe_var 0)))
    (qss_cons (qs_set 3 sc_quarter.nd (qe_or (qe_and (qe_shl (qe_var 3) qe_int) (qe_gint g_MASK)) (qe_shr (qe_var 3) qe_int)))
    (qss_cons (qs_set 2 sc_quarter.nd (qe_and (qe_addF (qe_var 2) (qe_var 3)) (qe_gint g_MASK)))
    (qss_cons (qs_set 1 sc_quarter.nd (qe_xor (qe_var 1) (qe_var 2)))
    (qss_cons (qs_set 1 sc_quarter.nd (qe_or (qe_and (qe_shl (qe_var 1) qe_int) (qe_gint g_MASK)) (qe_shr (qe_var 1) qe_int)))
    (qss_cons (qs_set 0 sc_quarter.nd (qe_and (qe_addF (qe_var 0) (qe_var 1)) (qe_gint g_MASK)))
    (qss_cons (qs_set 3 sc_quarter.nd (qe_xor (qe_var 3) (qe_var 0)))
    (qss_cons (qs_set 3 sc_quarter.nd (qe_or (qe_and (qe_shl (qe_var 3) qe_int) (qe_gint g_MASK)) (qe_shr (qe_var 3) qe_int)))
    (qss_cons (qs_set 2 sc_quarter.nd (qe_and (qe_addF (qe_var 2) (qe_var 3)) (qe_gint g_MASK)))
    (qss_cons (qs_set 1 sc_quarter.nd (qe_xor (qe_var 1) (qe_var 2)))
    (qss_cons (qs_set 1 sc_quarter.nd (qe_or (qe_and (qe_shl (qe_var 1) qe_int) (qe_gint g_MASK)) (qe_shr (qe_var 1) qe_int)))
    (qss_one (qs_ret (qe_tup (qa_cons (qe_var 0) (qa_cons (qe_var 1) (qa_cons (qe_var 2) (qa_cons (qe_var 3) qa_nil)))))))))))))))))))
/-! def unquarter -/
theorem sc_unquarter : FnScope Sh.N_unquarter Sh.ps_unquarter (defScope st_unquarter) := ⟨rfl, rfl, rfl, by decide +kernel, rfl, by decide +kernel, by decide +kernel⟩
theorem d_unquarter {P : Program} {w : World} {z : Wd} {mg : Str → Option Value} {base : Heap} {f : Addr} (nb : Nb mg) (g_MASK : ∃ t, mg "MASK" = some (.int 4294967295 t)) : DefD P w z.K mg base Sh.N_unquarter "unquarter" st_unquarter f 0 (Sh.t_unquarter z) := fun cdv A outer s H E B W hr hg tk hp => by
  have hu := hr.un
  replace hu : (BX P w z.K mg base Sh.N_unquarter "unquarter" st_unquarter f cdv A outer s H E).A.units + 64 < cLine := by omega
  exact (qss_cons (qs_set 1 sc_unquarter.nd (qe_or (qe_shr (qe_var 1) qe_int) (qe_and (qe_shl (qe_var 1) qe_int) (qe_gint g_MASK))))
    (qss_cons (qs_set 1 sc_unquarter.nd (qe_xor (qe_var 1) (qe_var 2)))
    (qss_cons (qs_set 2 sc_unquarter.nd (qe_and (qe_sub (qe_var 2) (qe_var 3)) (qe_gint g_MASK)))
    (qss_cons (qs_set 3 sc_unquarter.nd (qe_or (qe_shr (qe_var 3) qe_int) (qe_and (qe_shl (qe_var 3) qe_int) (qe_gint g_MASK))))
    (qss_cons (qs_set 3 sc_unquarter.nd (qe_xor (qe_var 3) (qe_var 0)))
    (qss_cons (qs_set 0 sc_unquarter.nd (qe_and (qe_sub (qe_var 0) (qe_var 1)) (qe_gint g_MASK)))
    (qss_cons (qs_set 1 sc_unquarter.nd (qe_or (qe_shr (qe_var 1) qe_int) (qe_and (qe_shl (qe_var 1) qe_int) (qe_gint g_MASK))))
    (qss_cons (qs_set 1 sc_unquarter.nd (qe_xor (qe_var 1) (qe_var 2)))
    (qss_cons (qs_set 2 sc_unquarter.nd (qe_and (qe_sub (qe_var 2) (qe_var 3)) (qe_gint g_MASK)))
    (qss_cons (qs_set 3 sc_unquarter.nd (qe_or (qe_shr (qe_var 3) qe_int) (qe_and (qe_shl (qe_var 3) qe_int) (qe_gint g_MASK))))
    (qss_cons (qs_set 3 sc_unquarter.nd (qe_xor (qe_var 3) (qe_var 0)))
    (qss_cons (qs_set 0 sc_unquarter.nd (qe_and (qe_sub (qe_var 0) (qe_var 1)) (qe_gint g_MASK)))
    (qss_one (qs_ret (qe_tup (qa_cons (qe_var 0) (qa_cons (qe_var 1) (qa_cons (qe_var 2) (qa_cons (qe_var 3) qa_nil)))))))))))))))))))
/-! def _turn -/
theorem sc_turn : FnScope Sh.N_turn Sh.ps_turn (defScope st_turn) := ⟨rfl, rfl, rfl, by decide +kernel, rfl, by decide +kernel, by decide +kernel⟩
theorem b_quarter_4 : Bds "quarter" "quarter" st_quarter ["a", "b", "c", "d"] 4 [] [0, 1, 2, 3] := fun _ _ _ _ _ _ us ws h1 h2 => match us, ws, h1, h2 with | [_, _, _, _], [], _, _ => rfl
theorem d_turn {P : Program} {w : World} {z : Wd} {mg : Str → Option Value} {base : Heap} {f : Addr} (nb : Nb mg) (c_quarter : Cal P w z.K mg base 1 "quarter" st_quarter Sh.ps_quarter (Sh.sp_quarter z)) : DefD P w z.K mg base Sh.N_turn "_turn" st_turn f 1 (Sh.t_turn z) := fun cdv A outer s H E B W hr hg tk hp => by
  have hu := hr.un
  replace hu : (BX P w z.K mg base Sh.N_turn "_turn" st_turn f cdv A outer s H E).A.units + 64 < cLine := by omega
  exact (qss_one (qs_for hp rfl (qi_seq (qe_var 1)) (qg_tup rfl (qgs_cons (qg_name 2 sc_turn.nd) (qgs_cons (qg_name 3 sc_turn.nd) (qgs_cons (qg_name 4 sc_turn.nd) (qgs_cons (qg_name 5 sc_turn.nd) qgs_nil))))) (qss_cons (qs_asg (qe_call c_quarter (hr.mono (by decide)) hg tk b_quarter_4 (qa_cons (qe_ix (qe_var 0) (qe_var 2)) (qa_cons (qe_ix (qe_var 0) (qe_var 3)) (qa_cons (qe_ix (qe_var 0) (qe_var 4)) (qa_cons (qe_ix (qe_var 0) (qe_var 5)) qa_nil)))) qk_nil) (qg_tup rfl (qgs_cons (qg_name 6 sc_turn.nd) (qgs_cons (qg_name 7 sc_turn.nd) (qgs_cons (qg_name 8 sc_turn.nd) (qgs_cons (qg_name 9 sc_turn.nd) qgs_nil))))))
    (qss_cons (qs_asg (qe_var 6) (qg_sub (qe_var 0) (qe_var 2)))
    (qss_cons (qs_asg (qe_var 7) (qg_sub (qe_var 0) (qe_var 3)))
    (qss_cons (qs_asg (qe_var 8) (qg_sub (qe_var 0) (qe_var 4)))
    (qss_one (qs_asg (qe_var 9) (qg_sub (qe_var 0) (qe_var 5))))))))))
/-! def quarter_at -/
theorem sc_quarter_at : FnScope Sh.N_quarter_at Sh.ps_quarter_at (defScope st_quarter_at) := ⟨rfl, rfl, rfl, by decide +kernel, rfl, by decide +kernel, by decide +kernel⟩
theorem b_turn_2 : Bds "_turn" "_turn" st_turn ["words", "lines"] 2 [] [0, 1] := fun _ _ _ _ _ _ us ws h1 h2 => match us, ws, h1, h2 with | [_, _], [], _, _ => rfl
theorem d_quarter_at {P : Program} {w : World} {z : Wd} {mg : Str → Option Value} {base : Heap} {f : Addr} (nb : Nb mg) (c_turn : Cal P w z.K mg base 2 "_turn" st_turn Sh.ps_turn (Sh.sp_turn z)) : DefD P w z.K mg base Sh.N_quarter_at "quarter_at" st_quarter_at f 2 (Sh.t_quarter_at z) := fun cdv A outer s H E B W hr hg tk hp => by
  have hu := hr.un
  replace hu : (BX P w z.K mg base Sh.N_quarter_at "quarter_at" st_quarter_at f cdv A outer s H E).A.units + 64 < cLine := by omega
  exact (qss_cons (qs_set 2 sc_quarter_at.nd (qe_callT ct_list rfl nb.list_ bT_list (qa_cons (qe_var 0) qa_nil)))
    (qss_cons (qs_expr (qe_call c_turn (hr.mono (by decide)) hg tk b_turn_2 (qa_cons (qe_var 2) (qa_cons (qe_tup (qa_cons (qe_var 1) qa_nil)) qa_nil)) qk_nil))
    (qss_one (qs_ret (qe_callT ct_tuple rfl nb.tuple_ bT_tuple (qa_cons (qe_var 2) qa_nil))))))
/-! def _law_is_row -/
abbrev N_law_is_row : List Str := ["value", "size", "bound", "thing"]
abbrev ps_law_is_row : List Str := ["value", "size", "bound"]
theorem sc_law_is_row : FnScope N_law_is_row ps_law_is_row (defScope st_law_is_row) := ⟨rfl, rfl, rfl, by decide +kernel, rfl, by decide +kernel, by decide +kernel⟩
abbrev t_law_is_row_1 (z : Wd) : ASt := (aRet (aC (.bl false)))
abbrev t_law_is_row_2 (z : Wd) : ASt := (aIf (aOrT (aNotT (aTruth (aCB cIsi (aCons (aVar 0) (aCons (aC (.ty "tuple")) aNil))))) (aTest (aOp oNe (aCB cLen (aCons (aVar 0) aNil)) (aVar 1)))) (t_law_is_row_1 z) aNext)
abbrev t_law_is_row_3 (z : Wd) : ASt := (aRet (aC (.bl false)))
abbrev t_law_is_row_4 (z : Wd) : ASt := (aIf (aOrT (aNotT (aTruth (aCB cIsi (aCons (aVar 3) (aCons (aC (.ty "int")) aNil))))) (aOrT (aTruth (aCB cIsi (aCons (aVar 3) (aCons (aC (.ty "bool")) aNil)))) (aOrT (aTest (aOp oLt (aVar 3) (aC (.int 0)))) (aTest (aOp oGe (aVar 3) (aVar 2)))))) (t_law_is_row_3 z) aNext)
abbrev t_law_is_row_5 (z : Wd) : ASt := (aFor (aWalk (aVar 0)) (agName 3) (t_law_is_row_4 z))
abbrev t_law_is_row_6 (z : Wd) : ASt := (aRet (aC (.bl true)))
abbrev t_law_is_row_7 (z : Wd) : ASt := aSeq (t_law_is_row_5 z) (t_law_is_row_6 z)
abbrev t_law_is_row_8 (z : Wd) : ASt := aSeq (t_law_is_row_2 z) (t_law_is_row_7 z)
abbrev t_law_is_row (z : Wd) : ASt := (t_law_is_row_8 z)
theorem d_law_is_row {P : Program} {w : World} {z : Wd} {mg : Str → Option Value} {base : Heap} {f : Addr} (nb : Nb mg)  : DefD P w z.K mg base N_law_is_row "_law_is_row" st_law_is_row f 0 (t_law_is_row z) := fun cdv A outer s H E B W hr hg tk hp => by
  have hu := hr.un
  replace hu : (BX P w z.K mg base N_law_is_row "_law_is_row" st_law_is_row f cdv A outer s H E).A.units + 64 < cLine := by omega
  exact (qss_cons (qs_if (qt_w (qw_or (qt_not (qt_truth (qe_callB cb_isi rfl nb.isinstance_ bB_isinstance (qa_cons (qe_var 0) (qa_cons (qe_bltn rfl nb.tuple_ bT_tuple) qa_nil))))) (qw_or1 (qt_cmp (c_ne hu) (qe_callB cb_len rfl nb.len_ bB_len (qa_cons (qe_var 0) qa_nil)) (qe_var 1))))) (qss_one (qs_ret qe_bl)) qss_nil)
    (qss_cons (qs_for hp rfl (qi_seq (qe_var 0)) (qg_name 3 sc_law_is_row.nd) (qss_one (qs_if (qt_w (qw_or (qt_not (qt_truth (qe_callB cb_isi rfl nb.isinstance_ bB_isinstance (qa_cons (qe_var 3) (qa_cons (qe_bltn rfl nb.int_ bT_int) qa_nil))))) (qw_or (qt_truth (qe_callB cb_isi rfl nb.isinstance_ bB_isinstance (qa_cons (qe_var 3) (qa_cons (qe_bltn rfl nb.bool_ bT_bool) qa_nil)))) (qw_or (qt_cmp c_lt (qe_var 3) qe_int) (qw_or1 (qt_cmp c_ge (qe_var 3) (qe_var 2))))))) (qss_one (qs_ret qe_bl)) qss_nil)))
    (qss_one (qs_ret qe_bl))))
/-! def _law_quarters_right -/
abbrev N_law_quarters_right : List Str := ["deal", "state", "one", "two", "three", "four", "words", "ahead", "due", "back", "found"]
abbrev ps_law_quarters_right : List Str := ["deal", "state"]
theorem sc_law_quarters_right : FnScope N_law_quarters_right ps_law_quarters_right (defScope st_law_quarters_right) := ⟨rfl, rfl, rfl, by decide +kernel, rfl, by decide +kernel, by decide +kernel⟩
theorem b_law_places_1 : Bds "_law_places" "_law_places" st_law_places ["deal"] 1 [] [0] := fun _ _ _ _ _ _ us ws h1 h2 => match us, ws, h1, h2 with | [_], [], _, _ => rfl
theorem b_law_quarter_5 : Bds "_law_quarter" "_law_quarter" st_law_quarter ["words", "one", "two", "three", "four"] 5 [] [0, 1, 2, 3, 4] := fun _ _ _ _ _ _ us ws h1 h2 => match us, ws, h1, h2 with | [_, _, _, _, _], [], _, _ => rfl
theorem b_quarter_0_d_c_b_a : Bds "quarter" "quarter" st_quarter ["a", "b", "c", "d"] 0 ["d", "c", "b", "a"] [3, 2, 1, 0] := fun _ _ _ _ _ _ us ws h1 h2 => match us, ws, h1, h2 with | [], [_, _, _, _], _, _ => rfl
theorem b_unquarter_4 : Bds "unquarter" "unquarter" st_unquarter ["a", "b", "c", "d"] 4 [] [0, 1, 2, 3] := fun _ _ _ _ _ _ us ws h1 h2 => match us, ws, h1, h2 with | [_, _, _, _], [], _, _ => rfl
theorem b_quarter_at_2 : Bds "quarter_at" "quarter_at" st_quarter_at ["state", "places"] 2 [] [0, 1] := fun _ _ _ _ _ _ us ws h1 h2 => match us, ws, h1, h2 with | [_, _], [], _, _ => rfl
theorem b_quarter_at_0_places_state : Bds "quarter_at" "quarter_at" st_quarter_at ["state", "places"] 0 ["places", "state"] [1, 0] := fun _ _ _ _ _ _ us ws h1 h2 => match us, ws, h1, h2 with | [], [_, _], _, _ => rfl
theorem b_unquarter_0_d_c_b_a : Bds "unquarter" "unquarter" st_unquarter ["a", "b", "c", "d"] 0 ["d", "c", "b", "a"] [3, 2, 1, 0] := fun _ _ _ _ _ _ us ws h1 h2 => match us, ws, h1, h2 with | [], [_, _, _, _], _, _ => rfl
theorem b_law_is_row_3 : Bds "_law_is_row" "_law_is_row" st_law_is_row ["value", "size", "bound"] 3 [] [0, 1, 2] := fun _ _ _ _ _ _ us ws h1 h2 => match us, ws, h1, h2 with | [_, _, _], [], _, _ => rfl
abbrev t_law_quarters_right_1 (z : Wd) : ASt := (aAsg (aCall (sp_law_places z) 1 0 [0] (aCons (aVar 0) aNil) aNil) (agTup 4 (agCons (agName 2) (agCons (agName 3) (agCons (agName 4) (agCons (agName 5) agNil))))))
abbrev t_law_quarters_right_2 (z : Wd) : ASt := (aAsg (aCB cList (aCons (aVar 1) aNil)) (agName 6))
abbrev t_law_quarters_right_3 (z : Wd) : ASt := (aDrop (aCall (Sh.sp_law_quarter z) 5 0 [0, 1, 2, 3, 4] (aCons (aVar 6) (aCons (aVar 2) (aCons (aVar 3) (aCons (aVar 4) (aCons (aVar 5) aNil))))) aNil))
abbrev t_law_quarters_right_4 (z : Wd) : ASt := (aPar 7 8 (aCons (aTup (aCons (aOp bIx (aVar 1) (aVar 2)) (aCons (aOp bIx (aVar 1) (aVar 3)) (aCons (aOp bIx (aVar 1) (aVar 4)) (aCons (aOp bIx (aVar 1) (aVar 5)) aNil))))) (aCons (aTup (aCons (aOp bIx (aVar 6) (aVar 2)) (aCons (aOp bIx (aVar 6) (aVar 3)) (aCons (aOp bIx (aVar 6) (aVar 4)) (aCons (aOp bIx (aVar 6) (aVar 5)) aNil))))) aNil)))
abbrev t_law_quarters_right_5 (z : Wd) : ASt := (aRet (aC (.bl false)))
abbrev t_law_quarters_right_6 (z : Wd) : ASt := (aIf (aTest (aOp oNe (aCB cRepr (aCons (aCall (Sh.sp_quarter z) 4 0 [0, 1, 2, 3] (aCons (aOp bIx (aVar 7) (aC (.int 0))) (aCons (aOp bIx (aVar 7) (aC (.int 1))) (aCons (aOp bIx (aVar 7) (aC (.int 2))) (aCons (aOp bIx (aVar 7) (aC (.int 3))) aNil)))) aNil) aNil)) (aCB cRepr (aCons (aVar 8) aNil)))) (t_law_quarters_right_5 z) aNext)
abbrev t_law_quarters_right_7 (z : Wd) : ASt := (aRet (aC (.bl false)))
abbrev t_law_quarters_right_8 (z : Wd) : ASt := (aIf (aTest (aOp oNe (aCall (Sh.sp_quarter z) 0 4 [3, 2, 1, 0] aNil (aCons (aOp bIx (aVar 7) (aC (.int 3))) (aCons (aOp bIx (aVar 7) (aC (.int 2))) (aCons (aOp bIx (aVar 7) (aC (.int 1))) (aCons (aOp bIx (aVar 7) (aC (.int 0))) aNil))))) (aVar 8))) (t_law_quarters_right_7 z) aNext)
abbrev t_law_quarters_right_9 (z : Wd) : ASt := (aRet (aC (.bl false)))
abbrev t_law_quarters_right_10 (z : Wd) : ASt := (aIf (aTest (aOp oNe (aCB cRepr (aCons (aCall (Sh.sp_unquarter z) 4 0 [0, 1, 2, 3] (aCons (aOp bIx (aVar 8) (aC (.int 0))) (aCons (aOp bIx (aVar 8) (aC (.int 1))) (aCons (aOp bIx (aVar 8) (aC (.int 2))) (aCons (aOp bIx (aVar 8) (aC (.int 3))) aNil)))) aNil) aNil)) (aCB cRepr (aCons (aVar 7) aNil)))) (t_law_quarters_right_9 z) aNext)
abbrev t_law_quarters_right_11 (z : Wd) : ASt := (aRet (aC (.bl false)))
abbrev t_law_quarters_right_12 (z : Wd) : ASt := (aIf (aTest (aOp oNe (aCB cRepr (aCons (aCall (Sh.sp_quarter_at z) 2 0 [0, 1] (aCons (aVar 1) (aCons (aTup (aCons (aVar 2) (aCons (aVar 3) (aCons (aVar 4) (aCons (aVar 5) aNil))))) aNil)) aNil) aNil)) (aCB cRepr (aCons (aCB cTuple (aCons (aVar 6) aNil)) aNil)))) (t_law_quarters_right_11 z) aNext)
abbrev t_law_quarters_right_13 (z : Wd) : ASt := (aRet (aC (.bl false)))
abbrev t_law_quarters_right_14 (z : Wd) : ASt := (aIf (aTest (aOp oNe (aCall (Sh.sp_quarter_at z) 0 2 [1, 0] aNil (aCons (aTup (aCons (aVar 2) (aCons (aVar 3) (aCons (aVar 4) (aCons (aVar 5) aNil))))) (aCons (aCB cTuple (aCons (aVar 1) aNil)) aNil))) (aCB cTuple (aCons (aVar 6) aNil)))) (t_law_quarters_right_13 z) aNext)
abbrev t_law_quarters_right_15 (z : Wd) : ASt := (aAsg (aCall (Sh.sp_unquarter z) 0 4 [3, 2, 1, 0] aNil (aCons (aOp bIx (aVar 7) (aC (.int 3))) (aCons (aOp bIx (aVar 7) (aC (.int 2))) (aCons (aOp bIx (aVar 7) (aC (.int 1))) (aCons (aOp bIx (aVar 7) (aC (.int 0))) aNil))))) (agName 9))
abbrev t_law_quarters_right_16 (z : Wd) : ASt := (aRet (aC (.bl false)))
abbrev t_law_quarters_right_17 (z : Wd) : ASt := (aIf (aNotT (aTruth (aCall (sp_law_is_row z) 3 0 [0, 1, 2] (aCons (aVar 9) (aCons (aC (.int 4)) (aCons (aC (.int 4294967296)) aNil))) aNil))) (t_law_quarters_right_16 z) aNext)
abbrev t_law_quarters_right_18 (z : Wd) : ASt := (aAsg (aCB cList (aCons (aVar 9) aNil)) (agName 10))
abbrev t_law_quarters_right_19 (z : Wd) : ASt := (aDrop (aCall (Sh.sp_law_quarter z) 5 0 [0, 1, 2, 3, 4] (aCons (aVar 10) (aCons (aC (.int 0)) (aCons (aC (.int 1)) (aCons (aC (.int 2)) (aCons (aC (.int 3)) aNil))))) aNil))
abbrev t_law_quarters_right_20 (z : Wd) : ASt := (aRet (aOp oEq (aCB cTuple (aCons (aVar 10) aNil)) (aVar 7)))
abbrev t_law_quarters_right_21 (z : Wd) : ASt := aSeq (t_law_quarters_right_19 z) (t_law_quarters_right_20 z)
abbrev t_law_quarters_right_22 (z : Wd) : ASt := aSeq (t_law_quarters_right_18 z) (t_law_quarters_right_21 z)
abbrev t_law_quarters_right_23 (z : Wd) : ASt := aSeq (t_law_quarters_right_17 z) (t_law_quarters_right_22 z)
abbrev t_law_quarters_right_24 (z : Wd) : ASt := aSeq (t_law_quarters_right_15 z) (t_law_quarters_right_23 z)
abbrev t_law_quarters_right_25 (z : Wd) : ASt := aSeq (t_law_quarters_right_14 z) (t_law_quarters_right_24 z)
abbrev t_law_quarters_right_26 (z : Wd) : ASt := aSeq (t_law_quarters_right_12 z) (t_law_quarters_right_25 z)
abbrev t_law_quarters_right_27 (z : Wd) : ASt := aSeq (t_law_quarters_right_10 z) (t_law_quarters_right_26 z)
abbrev t_law_quarters_right_28 (z : Wd) : ASt := aSeq (t_law_quarters_right_8 z) (t_law_quarters_right_27 z)
abbrev t_law_quarters_right_29 (z : Wd) : ASt := aSeq (t_law_quarters_right_6 z) (t_law_quarters_right_28 z)
abbrev t_law_quarters_right_30 (z : Wd) : ASt := aSeq (t_law_quarters_right_4 z) (t_law_quarters_right_29 z)
abbrev t_law_quarters_right_31 (z : Wd) : ASt := aSeq (t_law_quarters_right_3 z) (t_law_quarters_right_30 z)
abbrev t_law_quarters_right_32 (z : Wd) : ASt := aSeq (t_law_quarters_right_2 z) (t_law_quarters_right_31 z)
abbrev t_law_quarters_right_33 (z : Wd) : ASt := aSeq (t_law_quarters_right_1 z) (t_law_quarters_right_32 z)
abbrev t_law_quarters_right (z : Wd) : ASt := (t_law_quarters_right_33 z)
theorem d_law_quarters_right {P : Program} {w : World} {z : Wd} {mg : Str → Option Value} {base : Heap} {f : Addr} (nb : Nb mg) (c_law_places : Cal P w z.K mg base 2 "_law_places" st_law_places ps_law_places (sp_law_places z)) (c_law_quarter : Cal P w z.K mg base 1 "_law_quarter" st_law_quarter Sh.ps_law_quarter (Sh.sp_law_quarter z)) (c_quarter : Cal P w z.K mg base 1 "quarter" st_quarter Sh.ps_quarter (Sh.sp_quarter z)) (c_unquarter : Cal P w z.K mg base 1 "unquarter" st_unquarter Sh.ps_unquarter (Sh.sp_unquarter z)) (c_quarter_at : Cal P w z.K mg base 3 "quarter_at" st_quarter_at Sh.ps_quarter_at (Sh.sp_quarter_at z)) (c_law_is_row : Cal P w z.K mg base 1 "_law_is_row" st_law_is_row ps_law_is_row (sp_law_is_row z)) : DefD P w z.K mg base N_law_quarters_right "_law_quarters_right" st_law_quarters_right f 3 (t_law_quarters_right z) := fun cdv A outer s H E B W hr hg tk hp => by
  have hu := hr.un
  replace hu : (BX P w z.K mg base N_law_quarters_right "_law_quarters_right" st_law_quarters_right f cdv A outer s H E).A.units + 64 < cLine := by omega
  exact (qss_cons (qs_asg (qe_call c_law_places (hr.mono (by decide)) hg tk b_law_places_1 (qa_cons (qe_var 0) qa_nil) qk_nil) (qg_tup rfl (qgs_cons (qg_name 2 sc_law_quarters_right.nd) (qgs_cons (qg_name 3 sc_law_quarters_right.nd) (qgs_cons (qg_name 4 sc_law_quarters_right.nd) (qgs_cons (qg_name 5 sc_law_quarters_right.nd) qgs_nil))))))
    (qss_cons (qs_set 6 sc_law_quarters_right.nd (qe_callT ct_list rfl nb.list_ bT_list (qa_cons (qe_var 1) qa_nil)))
    (qss_cons (qs_expr (qe_call c_law_quarter (hr.mono (by decide)) hg tk b_law_quarter_5 (qa_cons (qe_var 6) (qa_cons (qe_var 2) (qa_cons (qe_var 3) (qa_cons (qe_var 4) (qa_cons (qe_var 5) qa_nil))))) qk_nil))
    (qss_cons (qs_par 7 8 rfl sc_law_quarters_right.nd (qa_cons (qe_tup (qa_cons (qe_ix (qe_var 1) (qe_var 2)) (qa_cons (qe_ix (qe_var 1) (qe_var 3)) (qa_cons (qe_ix (qe_var 1) (qe_var 4)) (qa_cons (qe_ix (qe_var 1) (qe_var 5)) qa_nil))))) (qa_cons (qe_tup (qa_cons (qe_ix (qe_var 6) (qe_var 2)) (qa_cons (qe_ix (qe_var 6) (qe_var 3)) (qa_cons (qe_ix (qe_var 6) (qe_var 4)) (qa_cons (qe_ix (qe_var 6) (qe_var 5)) qa_nil))))) qa_nil)))
    (qss_cons (qs_if (qt_cmp (c_ne hu) (qe_callB (cb_repr hu hg) rfl nb.repr_ bB_repr (qa_cons (qe_call c_quarter (hr.mono (by decide)) hg tk b_quarter_4 (qa_cons (qe_ix (qe_var 7) qe_int) (qa_cons (qe_ix (qe_var 7) qe_int) (qa_cons (qe_ix (qe_var 7) qe_int) (qa_cons (qe_ix (qe_var 7) qe_int) qa_nil)))) qk_nil) qa_nil)) (qe_callB (cb_repr hu hg) rfl nb.repr_ bB_repr (qa_cons (qe_var 8) qa_nil))) (qss_one (qs_ret qe_bl)) qss_nil)
    (qss_cons (qs_if (qt_cmp (c_ne hu) (qe_call0 c_quarter (hr.mono (by decide)) hg tk b_quarter_0_d_c_b_a (qk_cons (qe_ix (qe_var 7) qe_int) (qk_cons (qe_ix (qe_var 7) qe_int) (qk_cons (qe_ix (qe_var 7) qe_int) (qk_cons (qe_ix (qe_var 7) qe_int) qk_nil))))) (qe_var 8)) (qss_one (qs_ret qe_bl)) qss_nil)
    (qss_cons (qs_if (qt_cmp (c_ne hu) (qe_callB (cb_repr hu hg) rfl nb.repr_ bB_repr (qa_cons (qe_call c_unquarter (hr.mono (by decide)) hg tk b_unquarter_4 (qa_cons (qe_ix (qe_var 8) qe_int) (qa_cons (qe_ix (qe_var 8) qe_int) (qa_cons (qe_ix (qe_var 8) qe_int) (qa_cons (qe_ix (qe_var 8) qe_int) qa_nil)))) qk_nil) qa_nil)) (qe_callB (cb_repr hu hg) rfl nb.repr_ bB_repr (qa_cons (qe_var 7) qa_nil))) (qss_one (qs_ret qe_bl)) qss_nil)
    (qss_cons (qs_if (qt_cmp (c_ne hu) (qe_callB (cb_repr hu hg) rfl nb.repr_ bB_repr (qa_cons (qe_call c_quarter_at (hr.mono (by decide)) hg tk b_quarter_at_2 (qa_cons (qe_var 1) (qa_cons (qe_tup (qa_cons (qe_var 2) (qa_cons (qe_var 3) (qa_cons (qe_var 4) (qa_cons (qe_var 5) qa_nil))))) qa_nil)) qk_nil) qa_nil)) (qe_callB (cb_repr hu hg) rfl nb.repr_ bB_repr (qa_cons (qe_callT ct_tuple rfl nb.tuple_ bT_tuple (qa_cons (qe_var 6) qa_nil)) qa_nil))) (qss_one (qs_ret qe_bl)) qss_nil)
    (qss_cons (qs_if (qt_cmp (c_ne hu) (qe_call0 c_quarter_at (hr.mono (by decide)) hg tk b_quarter_at_0_places_state (qk_cons (qe_tup (qa_cons (qe_var 2) (qa_cons (qe_var 3) (qa_cons (qe_var 4) (qa_cons (qe_var 5) qa_nil))))) (qk_cons (qe_callT ct_tuple rfl nb.tuple_ bT_tuple (qa_cons (qe_var 1) qa_nil)) qk_nil))) (qe_callT ct_tuple rfl nb.tuple_ bT_tuple (qa_cons (qe_var 6) qa_nil))) (qss_one (qs_ret qe_bl)) qss_nil)
    (qss_cons (qs_set 9 sc_law_quarters_right.nd (qe_call0 c_unquarter (hr.mono (by decide)) hg tk b_unquarter_0_d_c_b_a (qk_cons (qe_ix (qe_var 7) qe_int) (qk_cons (qe_ix (qe_var 7) qe_int) (qk_cons (qe_ix (qe_var 7) qe_int) (qk_cons (qe_ix (qe_var 7) qe_int) qk_nil))))))
    (qss_cons (qs_if (qt_not (qt_truth (qe_call c_law_is_row (hr.mono (by decide)) hg tk b_law_is_row_3 (qa_cons (qe_var 9) (qa_cons qe_int (qa_cons qe_int qa_nil))) qk_nil))) (qss_one (qs_ret qe_bl)) qss_nil)
    (qss_cons (qs_set 10 sc_law_quarters_right.nd (qe_callT ct_list rfl nb.list_ bT_list (qa_cons (qe_var 9) qa_nil)))
    (qss_cons (qs_expr (qe_call c_law_quarter (hr.mono (by decide)) hg tk b_law_quarter_5 (qa_cons (qe_var 10) (qa_cons qe_int (qa_cons qe_int (qa_cons qe_int (qa_cons qe_int qa_nil))))) qk_nil))
    (qss_one (qs_ret (qe_cmp (c_eq hu) (qe_callT ct_tuple rfl nb.tuple_ bT_tuple (qa_cons (qe_var 10) qa_nil)) (qe_var 7)))))))))))))))))
/-! def _law_of -/
abbrev N_law_of : List Str := ["deal", "some"]
abbrev ps_law_of : List Str := ["deal", "some"]
theorem sc_law_of : FnScope N_law_of ps_law_of (defScope st_law_of) := ⟨rfl, rfl, rfl, by decide +kernel, rfl, by decide +kernel, by decide +kernel⟩
abbrev t_law_of_1 (z : Wd) : ASt := (aRet (aOp bIx (aVar 1) (aCall (sp_law_any z) 2 0 [0, 1] (aCons (aVar 0) (aCons (aCB cLen (aCons (aVar 1) aNil)) aNil)) aNil)))
abbrev t_law_of (z : Wd) : ASt := (t_law_of_1 z)
theorem d_law_of {P : Program} {w : World} {z : Wd} {mg : Str → Option Value} {base : Heap} {f : Addr} (nb : Nb mg) (c_law_any : Cal P w z.K mg base 1 "_law_any" st_law_any ps_law_any (sp_law_any z)) : DefD P w z.K mg base N_law_of "_law_of" st_law_of f 1 (t_law_of z) := fun cdv A outer s H E B W hr hg tk hp => by
  have hu := hr.un
  replace hu : (BX P w z.K mg base N_law_of "_law_of" st_law_of f cdv A outer s H E).A.units + 64 < cLine := by omega
  exact (qss_one (qs_ret (qe_ix (qe_var 1) (qe_call c_law_any (hr.mono (by decide)) hg tk b_law_any_2 (qa_cons (qe_var 0) (qa_cons (qe_callB cb_len rfl nb.len_ bB_len (qa_cons (qe_var 1) qa_nil)) qa_nil)) qk_nil))))
/-! def _law_bent -/
abbrev N_law_bent : List Str := ["deal", "size", "bound", "row", "kind", "at", "things", "turn"]
abbrev ps_law_bent : List Str := ["deal", "size", "bound"]
theorem sc_law_bent : FnScope N_law_bent ps_law_bent (defScope st_law_bent) := ⟨rfl, rfl, rfl, by decide +kernel, rfl, by decide +kernel, by decide +kernel⟩
theorem b_law_of_2 : Bds "_law_of" "_law_of" st_law_of ["deal", "some"] 2 [] [0, 1] := fun _ _ _ _ _ _ us ws h1 h2 => match us, ws, h1, h2 with | [_, _], [], _, _ => rfl
abbrev t_law_bent_1 (z : Wd) : ASt := (aAsg (aLcF (aRng1 (aCons (aVar 1) aNil)) (agName 7) aYes (aCall (sp_law_of z) 2 0 [0, 1] (aCons (aVar 0) (aCons (aLstF (aCons (aC (.int 0)) (aCons (aC (.int 1)) (aCons (aOp oSub (aVar 2) (aC (.int 1))) (aCons (aCall (sp_law_any z) 2 0 [0, 1] (aCons (aVar 0) (aCons (aC (.int 256)) aNil)) aNil) aNil))))) aNil)) aNil) [7]) (agName 3))
abbrev t_law_bent_2 (z : Wd) : ASt := (aPar 4 5 (aCons (aCall (sp_law_any z) 2 0 [0, 1] (aCons (aVar 0) (aCons (aC (.int 12)) aNil)) aNil) (aCons (aCall (sp_law_any z) 2 0 [0, 1] (aCons (aVar 0) (aCons (aVar 1) aNil)) aNil) aNil)))
abbrev t_law_bent_3 (z : Wd) : ASt := (aRet (aOp bIx (aLstF (aCons (aCB cTuple (aCons (aVar 3) aNil)) (aCons (aCB cListF (aCons (aVar 3) aNil)) aNil))) (aVar 4)))
abbrev t_law_bent_4 (z : Wd) : ASt := (aIf (aTest (aOp oLt (aVar 4) (aC (.int 2)))) (t_law_bent_3 z) aNext)
abbrev t_law_bent_5 (z : Wd) : ASt := (aRet (aOp bIx (aLstF (aCons (aCB cTuple (aCons (aSlF (aVar 3) aNoPart (aPart (aNeg (aC (.int 1))))) aNil)) (aCons (aCB cTuple (aCons (aOp bAddF (aVar 3) (aLstF (aCons (aC (.int 0)) aNil))) aNil)) (aCons (aTup aNil) aNil)))) (aOp oSub (aVar 4) (aC (.int 2)))))
abbrev t_law_bent_6 (z : Wd) : ASt := (aIf (aTest (aOp oLt (aVar 4) (aC (.int 5)))) (t_law_bent_5 z) aNext)
abbrev t_law_bent_7 (z : Wd) : ASt := (aRet (aCall (sp_law_of z) 2 0 [0, 1] (aCons (aVar 0) (aCons (aLstF (aCons (aC .non) (aCons (aVar 1) (aCons (aOp bMulS (aC (.str "a")) (aVar 1)) (aCons (aTup (aCons (aCB cTuple (aCons (aVar 3) aNil)) aNil)) (aCons (aC (.bl true)) aNil)))))) aNil)) aNil))
abbrev t_law_bent_8 (z : Wd) : ASt := (aIf (aTest (aOp oEq (aVar 4) (aC (.int 5)))) (t_law_bent_7 z) aNext)
abbrev t_law_bent_9 (z : Wd) : ASt := (aAsg (aLstF (aCons (aOp oSub (aC (.int 0)) (aC (.int 1))) (aCons (aVar 2) (aCons (aOp oSub (aVar 2) (aC (.int 1))) (aCons (aOp oMul (aVar 2) (aVar 2)) (aCons (aOp oSub (aC (.int 0)) (aVar 2)) (aCons (aC (.int 0)) (aCons (aC (.bl true)) (aCons (aC (.bl false)) (aCons (aC .non) (aCons (aC (.str "7")) (aCons (aTup (aCons (aC (.int 1)) aNil)) (aCons (aLstF (aCons (aC (.int 1)) aNil)) (aCons (aC (.str "")) aNil)))))))))))))) (agName 6))
abbrev t_law_bent_10 (z : Wd) : ASt := (aRet (aCB cTuple (aCons (aOp bAddF (aOp bAddF (aSlF (aVar 3) aNoPart (aPart (aVar 5))) (aLstF (aCons (aCall (sp_law_of z) 2 0 [0, 1] (aCons (aVar 0) (aCons (aVar 6) aNil)) aNil) aNil))) (aSlF (aVar 3) (aPart (aOp bAddF (aVar 5) (aC (.int 1)))) aNoPart)) aNil)))
abbrev t_law_bent_11 (z : Wd) : ASt := aSeq (t_law_bent_9 z) (t_law_bent_10 z)
abbrev t_law_bent_12 (z : Wd) : ASt := aSeq (t_law_bent_8 z) (t_law_bent_11 z)
abbrev t_law_bent_13 (z : Wd) : ASt := aSeq (t_law_bent_6 z) (t_law_bent_12 z)
abbrev t_law_bent_14 (z : Wd) : ASt := aSeq (t_law_bent_4 z) (t_law_bent_13 z)
abbrev t_law_bent_15 (z : Wd) : ASt := aSeq (t_law_bent_2 z) (t_law_bent_14 z)
abbrev t_law_bent_16 (z : Wd) : ASt := aSeq (t_law_bent_1 z) (t_law_bent_15 z)
abbrev t_law_bent (z : Wd) : ASt := (t_law_bent_16 z)
theorem d_law_bent {P : Program} {w : World} {z : Wd} {mg : Str → Option Value} {base : Heap} {f : Addr} (nb : Nb mg) (c_law_of : Cal P w z.K mg base 2 "_law_of" st_law_of ps_law_of (sp_law_of z)) (c_law_any : Cal P w z.K mg base 1 "_law_any" st_law_any ps_law_any (sp_law_any z)) : DefD P w z.K mg base N_law_bent "_law_bent" st_law_bent f 2 (t_law_bent z) := fun cdv A outer s H E B W hr hg tk hp => by
  have hu := hr.un
  replace hu : (BX P w z.K mg base N_law_bent "_law_bent" st_law_bent f cdv A outer s H E).A.units + 64 < cLine := by omega
  exact (qss_cons (qs_setLcF 3 (own := [("turn", 7)]) rfl sc_law_bent.nd (qi_range1 rfl nb.range_ (qa_cons (qe_var 1) qa_nil)) (blkOk_by (N := N_law_bent) (sc := defScope st_law_bent) (by decide +kernel)) (fun _ h => h) (fun _ _ _ _ _ => (qg_name 7 sc_law_bent.nd)) (fun _ _ _ _ _ => qts_nil) (fun _ _ _ _ _ => (qe_call c_law_of (hr.mono (by decide)) hg takes0 b_law_of_2 (qa_cons (qe_var 0) (qa_cons (qe_lstF (qa_cons qe_int (qa_cons qe_int (qa_cons (qe_sub (qe_var 2) qe_int) (qa_cons (qe_call c_law_any (hr.mono (by decide)) hg takes0 b_law_any_2 (qa_cons (qe_var 0) (qa_cons qe_int qa_nil)) qk_nil) qa_nil))))) qa_nil)) qk_nil)))
    (qss_cons (qs_par 4 5 rfl sc_law_bent.nd (qa_cons (qe_call c_law_any (hr.mono (by decide)) hg tk b_law_any_2 (qa_cons (qe_var 0) (qa_cons qe_int qa_nil)) qk_nil) (qa_cons (qe_call c_law_any (hr.mono (by decide)) hg tk b_law_any_2 (qa_cons (qe_var 0) (qa_cons (qe_var 1) qa_nil)) qk_nil) qa_nil)))
    (qss_cons (qs_if (qt_cmp c_lt (qe_var 4) qe_int) (qss_one (qs_ret (qe_ix (qe_lstF (qa_cons (qe_callT ct_tuple rfl nb.tuple_ bT_tuple (qa_cons (qe_var 3) qa_nil)) (qa_cons (qe_callT ct_listF rfl nb.list_ bT_list (qa_cons (qe_var 3) qa_nil)) qa_nil))) (qe_var 4)))) qss_nil)
    (qss_cons (qs_if (qt_cmp c_lt (qe_var 4) qe_int) (qss_one (qs_ret (qe_ix (qe_lstF (qa_cons (qe_callT ct_tuple rfl nb.tuple_ bT_tuple (qa_cons (qe_sliceF (qe_var 3) qo_none (qo_some (qe_neg qe_int))) qa_nil)) (qa_cons (qe_callT ct_tuple rfl nb.tuple_ bT_tuple (qa_cons (qe_addF (qe_var 3) (qe_lstF (qa_cons qe_int qa_nil))) qa_nil)) (qa_cons (qe_tup qa_nil) qa_nil)))) (qe_sub (qe_var 4) qe_int)))) qss_nil)
    (qss_cons (qs_if (qt_cmp (c_eq hu) (qe_var 4) qe_int) (qss_one (qs_ret (qe_call c_law_of (hr.mono (by decide)) hg tk b_law_of_2 (qa_cons (qe_var 0) (qa_cons (qe_lstF (qa_cons qe_non (qa_cons (qe_var 1) (qa_cons (qe_mulS qe_str (qe_var 1)) (qa_cons (qe_tup (qa_cons (qe_callT ct_tuple rfl nb.tuple_ bT_tuple (qa_cons (qe_var 3) qa_nil)) qa_nil)) (qa_cons qe_bl qa_nil)))))) qa_nil)) qk_nil))) qss_nil)
    (qss_cons (qs_set 6 sc_law_bent.nd (qe_lstF (qa_cons (qe_sub qe_int qe_int) (qa_cons (qe_var 2) (qa_cons (qe_sub (qe_var 2) qe_int) (qa_cons (qe_mul (qe_var 2) (qe_var 2)) (qa_cons (qe_sub qe_int (qe_var 2)) (qa_cons qe_int (qa_cons qe_bl (qa_cons qe_bl (qa_cons qe_non (qa_cons qe_str (qa_cons (qe_tup (qa_cons qe_int qa_nil)) (qa_cons (qe_lstF (qa_cons qe_int qa_nil)) (qa_cons qe_str qa_nil)))))))))))))))
    (qss_one (qs_ret (qe_callT ct_tuple rfl nb.tuple_ bT_tuple (qa_cons (qe_addF (qe_addF (qe_sliceF (qe_var 3) qo_none (qo_some (qe_var 5))) (qe_lstF (qa_cons (qe_call c_law_of (hr.mono (by decide)) hg tk b_law_of_2 (qa_cons (qe_var 0) (qa_cons (qe_var 6) qa_nil)) qk_nil) qa_nil))) (qe_sliceF (qe_var 3) (qo_some (qe_addF (qe_var 5) qe_int)) qo_none)) qa_nil))))))))))
/-! def is_integer -/
theorem sc_is_integer : FnScope Sh.N_is_integer Sh.ps_is_integer (defScope st_is_integer) := ⟨rfl, rfl, rfl, by decide +kernel, rfl, by decide +kernel, by decide +kernel⟩
theorem d_is_integer {P : Program} {w : World} {z : Wd} {mg : Str → Option Value} {base : Heap} {f : Addr} (nb : Nb mg)  : DefD P w z.K mg base Sh.N_is_integer "is_integer" st_is_integer f 0 (Sh.t_is_integer z) := fun cdv A outer s H E B W hr hg tk hp => by
  have hu := hr.un
  replace hu : (BX P w z.K mg base Sh.N_is_integer "is_integer" st_is_integer f cdv A outer s H E).A.units + 64 < cLine := by omega
  exact (qss_one (qs_ret (qe_andV (qe_callB cb_isi rfl nb.isinstance_ bB_isinstance (qa_cons (qe_var 0) (qa_cons (qe_bltn rfl nb.int_ bT_int) qa_nil))) (qe_one (qe_notV (qe_callB cb_isi rfl nb.isinstance_ bB_isinstance (qa_cons (qe_var 0) (qa_cons (qe_bltn rfl nb.bool_ bT_bool) qa_nil))))))))
/-! def is_below -/
theorem sc_is_below : FnScope Sh.N_is_below Sh.ps_is_below (defScope st_is_below) := ⟨rfl, rfl, rfl, by decide +kernel, rfl, by decide +kernel, by decide +kernel⟩
theorem b_is_integer_1 : Bds "is_integer" "is_integer" st_is_integer ["value"] 1 [] [0] := fun _ _ _ _ _ _ us ws h1 h2 => match us, ws, h1, h2 with | [_], [], _, _ => rfl
theorem d_is_below {P : Program} {w : World} {z : Wd} {mg : Str → Option Value} {base : Heap} {f : Addr} (nb : Nb mg) (c_is_integer : Cal P w z.K mg base 1 "is_integer" st_is_integer Sh.ps_is_integer (Sh.sp_is_integer z)) : DefD P w z.K mg base Sh.N_is_below "is_below" st_is_below f 1 (Sh.t_is_below z) := fun cdv A outer s H E B W hr hg tk hp => by
  have hu := hr.un
  replace hu : (BX P w z.K mg base Sh.N_is_below "is_below" st_is_below f cdv A outer s H E).A.units + 64 < cLine := by omega
  exact (qss_one (qs_ret (qe_andV (qe_call c_is_integer (hr.mono (by decide)) hg tk b_is_integer_1 (qa_cons (qe_var 0) qa_nil) qk_nil) (qe_one (qe_chain c_le c_lt qe_int (qe_var 0) (qe_var 1))))))
/-! def is_state -/
abbrev N_is_state : List Str := ["value", "word"]
abbrev ps_is_state : List Str := ["value"]
theorem sc_is_state : FnScope N_is_state ps_is_state (defScope st_is_state) := ⟨rfl, rfl, rfl, by decide +kernel, rfl, by decide +kernel, by decide +kernel⟩
theorem b_is_below_2 : Bds "is_below" "is_below" st_is_below ["value", "bound"] 2 [] [0, 1] := fun _ _ _ _ _ _ us ws h1 h2 => match us, ws, h1, h2 with | [_, _], [], _, _ => rfl
abbrev t_is_state_1 (z : Wd) : ASt := (aRet (aC (.bl false)))
abbrev t_is_state_2 (z : Wd) : ASt := (aIf (aOrT (aNotT (aTruth (aCB cIsi (aCons (aVar 0) (aCons (aC (.ty "tuple")) aNil))))) (aTest (aOp oNe (aCB cLen (aCons (aVar 0) aNil)) (aC (.int 16))))) (t_is_state_1 z) aNext)
abbrev t_is_state_3 (z : Wd) : ASt := (aRet (aCB (cAllL fun bs => bs.all id) (aCons (aLcF (aWalk (aVar 0)) (agName 1) aYes (aCall (Sh.sp_is_below z) 2 0 [0, 1] (aCons (aVar 1) (aCons (aOp bAddF (aC (.int 4294967295)) (aC (.int 1))) aNil)) aNil) [1]) aNil)))
abbrev t_is_state_4 (z : Wd) : ASt := aSeq (t_is_state_2 z) (t_is_state_3 z)
abbrev t_is_state (z : Wd) : ASt := (t_is_state_4 z)
theorem d_is_state {P : Program} {w : World} {z : Wd} {mg : Str → Option Value} {base : Heap} {f : Addr} (nb : Nb mg) (c_is_below : Cal P w z.K mg base 2 "is_below" st_is_below Sh.ps_is_below (Sh.sp_is_below z)) (g_MASK : ∃ t, mg "MASK" = some (.int 4294967295 t)) : DefD P w z.K mg base N_is_state "is_state" st_is_state f 2 (t_is_state z) := fun cdv A outer s H E B W hr hg tk hp => by
  have hu := hr.un
  replace hu : (BX P w z.K mg base N_is_state "is_state" st_is_state f cdv A outer s H E).A.units + 64 < cLine := by omega
  exact (qss_cons (qs_if (qt_w (qw_or (qt_not (qt_truth (qe_callB cb_isi rfl nb.isinstance_ bB_isinstance (qa_cons (qe_var 0) (qa_cons (qe_bltn rfl nb.tuple_ bT_tuple) qa_nil))))) (qw_or1 (qt_cmp (c_ne hu) (qe_callB cb_len rfl nb.len_ bB_len (qa_cons (qe_var 0) qa_nil)) qe_int)))) (qss_one (qs_ret qe_bl)) qss_nil)
    (qss_one (qs_ret (qe_callB (cb_allL rfl) rfl nb.all_ bB_all (qa_cons (qe_lcF (own := [("word", 1)]) rfl sc_is_state.nd (qi_seq (qe_var 0)) (blkOk_by (N := N_is_state) (sc := defScope st_is_state) (by decide +kernel)) (fun _ h => h) (fun _ _ _ _ _ => (qg_name 1 sc_is_state.nd)) (fun _ _ _ _ _ => qts_nil) (fun _ _ _ _ _ => (qe_call c_is_below (hr.mono (by decide)) hg takes0 b_is_below_2 (qa_cons (qe_var 1) (qa_cons (qe_addF (qe_gint g_MASK) qe_int) qa_nil)) qk_nil))) qa_nil)))))
/-! def wrong_place -/
theorem sc_wrong_place : FnScope Sh.N_wrong_place Sh.ps_wrong_place (defScope st_wrong_place) := ⟨rfl, rfl, rfl, by decide +kernel, rfl, by decide +kernel, by decide +kernel⟩
theorem d_wrong_place {P : Program} {w : World} {z : Wd} {mg : Str → Option Value} {base : Heap} {f : Addr} (nb : Nb mg) (c_is_below : Cal P w z.K mg base 2 "is_below" st_is_below Sh.ps_is_below (Sh.sp_is_below z)) : DefD P w z.K mg base Sh.N_wrong_place "wrong_place" st_wrong_place f 2 (Sh.t_wrong_place z) := fun cdv A outer s H E B W hr hg tk hp => by
  have hu := hr.un
  replace hu : (BX P w z.K mg base Sh.N_wrong_place "wrong_place" st_wrong_place f cdv A outer s H E).A.units + 64 < cLine := by omega
  exact (qss_cons (qs_for hp rfl (qi_enumT rfl nb.enumerate_ (qa_cons (qe_var 0) qa_nil)) (qg_tup rfl (qgs_cons (qg_name 2 sc_wrong_place.nd) (qgs_cons (qg_name 3 sc_wrong_place.nd) qgs_nil))) (qss_one (qs_if (qt_w (qw_or (qt_not (qt_truth (qe_call c_is_below (hr.mono (by decide)) hg tk b_is_below_2 (qa_cons (qe_var 3) (qa_cons qe_int qa_nil)) qk_nil))) (qw_or1 (qt_cmp (c_eq hu) (qe_var 2) (qe_var 1))))) (qss_one (qs_ret (qe_var 2))) qss_nil)))
    (qss_one (qs_ret (qe_ifExp (qt_w (qw_and (qt_cmp c_isnot (qe_var 1) qe_non) (qw_and1 (qt_cmp c_lt (qe_callB cb_len rfl nb.len_ bB_len (qa_cons (qe_var 0) qa_nil)) (qe_var 1))))) (qe_callB cb_len rfl nb.len_ bB_len (qa_cons (qe_var 0) qa_nil)) qe_non))))
/-! def is_octets -/
theorem sc_is_octets : FnScope Sh.N_is_octets Sh.ps_is_octets (defScope st_is_octets) := ⟨rfl, rfl, rfl, by decide +kernel, rfl, by decide +kernel, by decide +kernel⟩
theorem b_wrong_place_2 : Bds "wrong_place" "wrong_place" st_wrong_place ["value", "size"] 2 [] [0, 1] := fun _ _ _ _ _ _ us ws h1 h2 => match us, ws, h1, h2 with | [_, _], [], _, _ => rfl
theorem d_is_octets {P : Program} {w : World} {z : Wd} {mg : Str → Option Value} {base : Heap} {f : Addr} (nb : Nb mg) (c_wrong_place : Cal P w z.K mg base 3 "wrong_place" st_wrong_place Sh.ps_wrong_place (Sh.sp_wrong_place z)) : DefD P w z.K mg base Sh.N_is_octets "is_octets" st_is_octets f 3 (Sh.t_is_octets z) := fun cdv A outer s H E B W hr hg tk hp => by
  have hu := hr.un
  replace hu : (BX P w z.K mg base Sh.N_is_octets "is_octets" st_is_octets f cdv A outer s H E).A.units + 64 < cLine := by omega
  exact (qss_one (qs_ret (qe_andV (qe_callB cb_isi rfl nb.isinstance_ bB_isinstance (qa_cons (qe_var 0) (qa_cons (qe_bltn rfl nb.tuple_ bT_tuple) qa_nil))) (qe_one (qe_cmp c_is (qe_call c_wrong_place (hr.mono (by decide)) hg tk b_wrong_place_2 (qa_cons (qe_var 0) (qa_cons qe_non qa_nil)) qk_nil) qe_non)))))
/-! def is_cipher_key -/
abbrev N_is_cipher_key : List Str := ["value"]
abbrev ps_is_cipher_key : List Str := ["value"]
theorem sc_is_cipher_key : FnScope N_is_cipher_key ps_is_cipher_key (defScope st_is_cipher_key) := ⟨rfl, rfl, rfl, by decide +kernel, rfl, by decide +kernel, by decide +kernel⟩
theorem b_is_octets_1 : Bds "is_octets" "is_octets" st_is_octets ["value"] 1 [] [0] := fun _ _ _ _ _ _ us ws h1 h2 => match us, ws, h1, h2 with | [_], [], _, _ => rfl
abbrev t_is_cipher_key_1 (z : Wd) : ASt := (aRet (aAndV (aCall (Sh.sp_is_octets z) 1 0 [0] (aCons (aVar 0) aNil) aNil) (aOp oEq (aCB cLen (aCons (aVar 0) aNil)) (aC (.int 32)))))
abbrev t_is_cipher_key (z : Wd) : ASt := (t_is_cipher_key_1 z)
theorem d_is_cipher_key {P : Program} {w : World} {z : Wd} {mg : Str → Option Value} {base : Heap} {f : Addr} (nb : Nb mg) (c_is_octets : Cal P w z.K mg base 4 "is_octets" st_is_octets Sh.ps_is_octets (Sh.sp_is_octets z)) : DefD P w z.K mg base N_is_cipher_key "is_cipher_key" st_is_cipher_key f 4 (t_is_cipher_key z) := fun cdv A outer s H E B W hr hg tk hp => by
  have hu := hr.un
  replace hu : (BX P w z.K mg base N_is_cipher_key "is_cipher_key" st_is_cipher_key f cdv A outer s H E).A.units + 64 < cLine := by omega
  exact (qss_one (qs_ret (qe_andV (qe_call c_is_octets (hr.mono (by decide)) hg tk b_is_octets_1 (qa_cons (qe_var 0) qa_nil) qk_nil) (qe_one (qe_cmp (c_eq hu) (qe_callB cb_len rfl nb.len_ bB_len (qa_cons (qe_var 0) qa_nil)) qe_int)))))
/-! def is_nonce -/
abbrev N_is_nonce : List Str := ["value"]
abbrev ps_is_nonce : List Str := ["value"]
theorem sc_is_nonce : FnScope N_is_nonce ps_is_nonce (defScope st_is_nonce) := ⟨rfl, rfl, rfl, by decide +kernel, rfl, by decide +kernel, by decide +kernel⟩
abbrev t_is_nonce_1 (z : Wd) : ASt := (aRet (aAndV (aCall (Sh.sp_is_octets z) 1 0 [0] (aCons (aVar 0) aNil) aNil) (aOp oEq (aCB cLen (aCons (aVar 0) aNil)) (aC (.int 12)))))
abbrev t_is_nonce (z : Wd) : ASt := (t_is_nonce_1 z)
theorem d_is_nonce {P : Program} {w : World} {z : Wd} {mg : Str → Option Value} {base : Heap} {f : Addr} (nb : Nb mg) (c_is_octets : Cal P w z.K mg base 4 "is_octets" st_is_octets Sh.ps_is_octets (Sh.sp_is_octets z)) : DefD P w z.K mg base N_is_nonce "is_nonce" st_is_nonce f 4 (t_is_nonce z) := fun cdv A outer s H E B W hr hg tk hp => by
  have hu := hr.un
  replace hu : (BX P w z.K mg base N_is_nonce "is_nonce" st_is_nonce f cdv A outer s H E).A.units + 64 < cLine := by omega
  exact (qss_one (qs_ret (qe_andV (qe_call c_is_octets (hr.mono (by decide)) hg tk b_is_octets_1 (qa_cons (qe_var 0) qa_nil) qk_nil) (qe_one (qe_cmp (c_eq hu) (qe_callB cb_len rfl nb.len_ bB_len (qa_cons (qe_var 0) qa_nil)) qe_int)))))
/-! def _law_kinds_right -/
abbrev N_law_kinds_right : List Str := ["deal", "again", "state", "key", "nonce"]
abbrev ps_law_kinds_right : List Str := ["deal"]
theorem sc_law_kinds_right : FnScope N_law_kinds_right ps_law_kinds_right (defScope st_law_kinds_right) := ⟨rfl, rfl, rfl, by decide +kernel, rfl, by decide +kernel, by decide +kernel⟩
theorem b_law_bent_3 : Bds "_law_bent" "_law_bent" st_law_bent ["deal", "size", "bound"] 3 [] [0, 1, 2] := fun _ _ _ _ _ _ us ws h1 h2 => match us, ws, h1, h2 with | [_, _, _], [], _, _ => rfl
theorem b_is_state_1 : Bds "is_state" "is_state" st_is_state ["value"] 1 [] [0] := fun _ _ _ _ _ _ us ws h1 h2 => match us, ws, h1, h2 with | [_], [], _, _ => rfl
theorem b_is_state_0_value : Bds "is_state" "is_state" st_is_state ["value"] 0 ["value"] [0] := fun _ _ _ _ _ _ us ws h1 h2 => match us, ws, h1, h2 with | [], [_], _, _ => rfl
theorem b_is_cipher_key_1 : Bds "is_cipher_key" "is_cipher_key" st_is_cipher_key ["value"] 1 [] [0] := fun _ _ _ _ _ _ us ws h1 h2 => match us, ws, h1, h2 with | [_], [], _, _ => rfl
theorem b_is_cipher_key_0_value : Bds "is_cipher_key" "is_cipher_key" st_is_cipher_key ["value"] 0 ["value"] [0] := fun _ _ _ _ _ _ us ws h1 h2 => match us, ws, h1, h2 with | [], [_], _, _ => rfl
theorem b_is_nonce_1 : Bds "is_nonce" "is_nonce" st_is_nonce ["value"] 1 [] [0] := fun _ _ _ _ _ _ us ws h1 h2 => match us, ws, h1, h2 with | [_], [], _, _ => rfl
theorem b_is_nonce_0_value : Bds "is_nonce" "is_nonce" st_is_nonce ["value"] 0 ["value"] [0] := fun _ _ _ _ _ _ us ws h1 h2 => match us, ws, h1, h2 with | [], [_], _, _ => rfl
abbrev t_law_kinds_right_1 (z : Wd) : ASt := (aPar3 2 3 4 (aCons (aCall (sp_law_bent z) 3 0 [0, 1, 2] (aCons (aVar 0) (aCons (aC (.int 16)) (aCons (aC (.int 4294967296)) aNil))) aNil) (aCons (aCall (sp_law_bent z) 3 0 [0, 1, 2] (aCons (aVar 0) (aCons (aC (.int 32)) (aCons (aC (.int 256)) aNil))) aNil) (aCons (aCall (sp_law_bent z) 3 0 [0, 1, 2] (aCons (aVar 0) (aCons (aC (.int 12)) (aCons (aC (.int 256)) aNil))) aNil) aNil))))
abbrev t_law_kinds_right_2 (z : Wd) : ASt := (aRet (aC (.bl false)))
abbrev t_law_kinds_right_3 (z : Wd) : ASt := (aIf (aOrT (aTest (aOp oNe (aCB cRepr (aCons (aCall (sp_is_state z) 1 0 [0] (aCons (aVar 2) aNil) aNil) aNil)) (aCB cRepr (aCons (aCall (sp_law_is_row z) 3 0 [0, 1, 2] (aCons (aVar 2) (aCons (aC (.int 16)) (aCons (aC (.int 4294967296)) aNil))) aNil) aNil)))) (aTest (aOp (bIsB true) (aCall (sp_is_state z) 0 1 [0] aNil (aCons (aVar 3) aNil)) (aC (.bl false))))) (t_law_kinds_right_2 z) aNext)
abbrev t_law_kinds_right_4 (z : Wd) : ASt := (aRet (aC (.bl false)))
abbrev t_law_kinds_right_5 (z : Wd) : ASt := (aIf (aOrT (aTest (aOp oNe (aCB cRepr (aCons (aCall (sp_is_cipher_key z) 1 0 [0] (aCons (aVar 3) aNil) aNil) aNil)) (aCB cRepr (aCons (aCall (sp_law_is_row z) 3 0 [0, 1, 2] (aCons (aVar 3) (aCons (aC (.int 32)) (aCons (aC (.int 256)) aNil))) aNil) aNil)))) (aTest (aOp (bIsB true) (aCall (sp_is_cipher_key z) 0 1 [0] aNil (aCons (aVar 4) aNil)) (aC (.bl false))))) (t_law_kinds_right_4 z) aNext)
abbrev t_law_kinds_right_6 (z : Wd) : ASt := (aRet (aC (.bl false)))
abbrev t_law_kinds_right_7 (z : Wd) : ASt := (aIf (aOrT (aTest (aOp oNe (aCB cRepr (aCons (aCall (sp_is_nonce z) 1 0 [0] (aCons (aVar 4) aNil) aNil) aNil)) (aCB cRepr (aCons (aCall (sp_law_is_row z) 3 0 [0, 1, 2] (aCons (aVar 4) (aCons (aC (.int 12)) (aCons (aC (.int 256)) aNil))) aNil) aNil)))) (aTest (aOp (bIsB true) (aCall (sp_is_nonce z) 0 1 [0] aNil (aCons (aVar 2) aNil)) (aC (.bl false))))) (t_law_kinds_right_6 z) aNext)
abbrev t_law_kinds_right_8 (z : Wd) : ASt := aSeq (t_law_kinds_right_5 z) (t_law_kinds_right_7 z)
abbrev t_law_kinds_right_9 (z : Wd) : ASt := aSeq (t_law_kinds_right_3 z) (t_law_kinds_right_8 z)
abbrev t_law_kinds_right_10 (z : Wd) : ASt := aSeq (t_law_kinds_right_1 z) (t_law_kinds_right_9 z)
abbrev t_law_kinds_right_11 (z : Wd) : ASt := (aFor (aRng1 (aCons (aC (.int 2)) aNil)) (agName 1) (t_law_kinds_right_10 z))
abbrev t_law_kinds_right_12 (z : Wd) : ASt := (aRet (aC (.bl true)))
abbrev t_law_kinds_right_13 (z : Wd) : ASt := aSeq (t_law_kinds_right_11 z) (t_law_kinds_right_12 z)
abbrev t_law_kinds_right (z : Wd) : ASt := (t_law_kinds_right_13 z)
theorem d_law_kinds_right {P : Program} {w : World} {z : Wd} {mg : Str → Option Value} {base : Heap} {f : Addr} (nb : Nb mg) (c_law_bent : Cal P w z.K mg base 3 "_law_bent" st_law_bent ps_law_bent (sp_law_bent z)) (c_is_state : Cal P w z.K mg base 3 "is_state" st_is_state ps_is_state (sp_is_state z)) (c_law_is_row : Cal P w z.K mg base 1 "_law_is_row" st_law_is_row ps_law_is_row (sp_law_is_row z)) (c_is_cipher_key : Cal P w z.K mg base 5 "is_cipher_key" st_is_cipher_key ps_is_cipher_key (sp_is_cipher_key z)) (c_is_nonce : Cal P w z.K mg base 5 "is_nonce" st_is_nonce ps_is_nonce (sp_is_nonce z)) : DefD P w z.K mg base N_law_kinds_right "_law_kinds_right" st_law_kinds_right f 5 (t_law_kinds_right z) := fun cdv A outer s H E B W hr hg tk hp => by
  have hu := hr.un
  replace hu : (BX P w z.K mg base N_law_kinds_right "_law_kinds_right" st_law_kinds_right f cdv A outer s H E).A.units + 64 < cLine := by omega
  exact (qss_cons (qs_for hp rfl (qi_range1 rfl nb.range_ (qa_cons qe_int qa_nil)) (qg_name 1 sc_law_kinds_right.nd) (qss_cons (qs_par3 2 3 4 rfl sc_law_kinds_right.nd (qa_cons (qe_call c_law_bent (hr.mono (by decide)) hg tk b_law_bent_3 (qa_cons (qe_var 0) (qa_cons qe_int (qa_cons qe_int qa_nil))) qk_nil) (qa_cons (qe_call c_law_bent (hr.mono (by decide)) hg tk b_law_bent_3 (qa_cons (qe_var 0) (qa_cons qe_int (qa_cons qe_int qa_nil))) qk_nil) (qa_cons (qe_call c_law_bent (hr.mono (by decide)) hg tk b_law_bent_3 (qa_cons (qe_var 0) (qa_cons qe_int (qa_cons qe_int qa_nil))) qk_nil) qa_nil))))
    (qss_cons (qs_if (qt_w (qw_or (qt_cmp (c_ne hu) (qe_callB (cb_repr hu hg) rfl nb.repr_ bB_repr (qa_cons (qe_call c_is_state (hr.mono (by decide)) hg tk b_is_state_1 (qa_cons (qe_var 2) qa_nil) qk_nil) qa_nil)) (qe_callB (cb_repr hu hg) rfl nb.repr_ bB_repr (qa_cons (qe_call c_law_is_row (hr.mono (by decide)) hg tk b_law_is_row_3 (qa_cons (qe_var 2) (qa_cons qe_int (qa_cons qe_int qa_nil))) qk_nil) qa_nil))) (qw_or1 (qt_cmp c_isnotB (qe_call0 c_is_state (hr.mono (by decide)) hg tk b_is_state_0_value (qk_cons (qe_var 3) qk_nil)) qe_bl)))) (qss_one (qs_ret qe_bl)) qss_nil)
    (qss_cons (qs_if (qt_w (qw_or (qt_cmp (c_ne hu) (qe_callB (cb_repr hu hg) rfl nb.repr_ bB_repr (qa_cons (qe_call c_is_cipher_key (hr.mono (by decide)) hg tk b_is_cipher_key_1 (qa_cons (qe_var 3) qa_nil) qk_nil) qa_nil)) (qe_callB (cb_repr hu hg) rfl nb.repr_ bB_repr (qa_cons (qe_call c_law_is_row (hr.mono (by decide)) hg tk b_law_is_row_3 (qa_cons (qe_var 3) (qa_cons qe_int (qa_cons qe_int qa_nil))) qk_nil) qa_nil))) (qw_or1 (qt_cmp c_isnotB (qe_call0 c_is_cipher_key (hr.mono (by decide)) hg tk b_is_cipher_key_0_value (qk_cons (qe_var 4) qk_nil)) qe_bl)))) (qss_one (qs_ret qe_bl)) qss_nil)
    (qss_one (qs_if (qt_w (qw_or (qt_cmp (c_ne hu) (qe_callB (cb_repr hu hg) rfl nb.repr_ bB_repr (qa_cons (qe_call c_is_nonce (hr.mono (by decide)) hg tk b_is_nonce_1 (qa_cons (qe_var 4) qa_nil) qk_nil) qa_nil)) (qe_callB (cb_repr hu hg) rfl nb.repr_ bB_repr (qa_cons (qe_call c_law_is_row (hr.mono (by decide)) hg tk b_law_is_row_3 (qa_cons (qe_var 4) (qa_cons qe_int (qa_cons qe_int qa_nil))) qk_nil) qa_nil))) (qw_or1 (qt_cmp c_isnotB (qe_call0 c_is_nonce (hr.mono (by decide)) hg tk b_is_nonce_0_value (qk_cons (qe_var 2) qk_nil)) qe_bl)))) (qss_one (qs_ret qe_bl)) qss_nil))))))
    (qss_one (qs_ret qe_bl)))
/-! def law -/
abbrev N_law : List Str := ["script", "deal", "columns", "diagonals", "again", "state", "at", "turn"]
abbrev ps_law : List Str := ["script"]
theorem sc_law : FnScope N_law ps_law (defScope st_law) := ⟨rfl, rfl, rfl, by decide +kernel, rfl, by decide +kernel, by decide +kernel⟩
theorem b_law_source_2 : Bds "_law_source" "_law_source" st_law_source ["script", "salt"] 2 [] [0, 1] := fun _ _ _ _ _ _ us ws h1 h2 => match us, ws, h1, h2 with | [_, _], [], _, _ => rfl
theorem b_law_word_1 : Bds "_law_word" "_law_word" st_law_word ["deal"] 1 [] [0] := fun _ _ _ _ _ _ us ws h1 h2 => match us, ws, h1, h2 with | [_], [], _, _ => rfl
theorem b_law_quarters_right_2 : Bds "_law_quarters_right" "_law_quarters_right" st_law_quarters_right ["deal", "state"] 2 [] [0, 1] := fun _ _ _ _ _ _ us ws h1 h2 => match us, ws, h1, h2 with | [_, _], [], _, _ => rfl
theorem b_law_kinds_right_1 : Bds "_law_kinds_right" "_law_kinds_right" st_law_kinds_right ["deal"] 1 [] [0] := fun _ _ _ _ _ _ us ws h1 h2 => match us, ws, h1, h2 with | [_], [], _, _ => rfl
abbrev t_law_1 (z : Wd) : ASt := (aAsg (aCall (sp_law_source z) 2 0 [0, 1] (aCons (aVar 0) (aCons (aC (.int 15)) aNil)) aNil) (agName 1))
abbrev t_law_2 (z : Wd) : ASt := (aAsg (aCB cTuple (aCons (aLcF (aRng1 (aCons (aC (.int 4)) aNil)) (agName 6) aYes (aTup (aCons (aVar 6) (aCons (aOp bAddF (aC (.int 4)) (aVar 6)) (aCons (aOp bAddF (aC (.int 8)) (aVar 6)) (aCons (aOp bAddF (aC (.int 12)) (aVar 6)) aNil))))) [6]) aNil)) (agName 2))
abbrev t_law_3 (z : Wd) : ASt := (aAsg (aTup (aCons (aTup (aCons (aC (.int 0)) (aCons (aC (.int 5)) (aCons (aC (.int 10)) (aCons (aC (.int 15)) aNil))))) (aCons (aTup (aCons (aC (.int 1)) (aCons (aC (.int 6)) (aCons (aC (.int 11)) (aCons (aC (.int 12)) aNil))))) (aCons (aTup (aCons (aC (.int 2)) (aCons (aC (.int 7)) (aCons (aC (.int 8)) (aCons (aC (.int 13)) aNil))))) (aCons (aTup (aCons (aC (.int 3)) (aCons (aC (.int 4)) (aCons (aC (.int 9)) (aCons (aC (.int 14)) aNil))))) aNil))))) (agName 3))
abbrev t_law_4 (z : Wd) : ASt := (aRet (aC (.bl false)))
abbrev t_law_5 (z : Wd) : ASt := (aIf (aOrT (aTest (aOp oNe (aCB cRepr (aCons (aC (.tup [(tI [0, 4, 8, 12]), (tI [1, 5, 9, 13]), (tI [2, 6, 10, 14]), (tI [3, 7, 11, 15])])) aNil)) (aCB cRepr (aCons (aVar 2) aNil)))) (aTest (aOp oNe (aCB cRepr (aCons (aC (.tup [(tI [0, 5, 10, 15]), (tI [1, 6, 11, 12]), (tI [2, 7, 8, 13]), (tI [3, 4, 9, 14])])) aNil)) (aCB cRepr (aCons (aVar 3) aNil))))) (t_law_4 z) aNext)
abbrev t_law_6 (z : Wd) : ASt := (aAsg (aCB cTuple (aCons (aLcF (aRng1 (aCons (aC (.int 16)) aNil)) (agName 7) aYes (aCall (Sh.sp_law_word z) 1 0 [0] (aCons (aVar 1) aNil) aNil) [7]) aNil)) (agName 5))
abbrev t_law_7 (z : Wd) : ASt := (aRet (aC (.bl false)))
abbrev t_law_8 (z : Wd) : ASt := (aIf (aNotT (aTruth (aCall (sp_law_quarters_right z) 2 0 [0, 1] (aCons (aVar 1) (aCons (aVar 5) aNil)) aNil))) (t_law_7 z) aNext)
abbrev t_law_9 (z : Wd) : ASt := aSeq (t_law_6 z) (t_law_8 z)
abbrev t_law_10 (z : Wd) : ASt := (aFor (aRng1 (aCons (aC (.int 3)) aNil)) (agName 4) (t_law_9 z))
abbrev t_law_11 (z : Wd) : ASt := (aRet (aCall (sp_law_kinds_right z) 1 0 [0] (aCons (aVar 1) aNil) aNil))
abbrev t_law_12 (z : Wd) : ASt := aSeq (t_law_10 z) (t_law_11 z)
abbrev t_law_13 (z : Wd) : ASt := aSeq (t_law_5 z) (t_law_12 z)
abbrev t_law_14 (z : Wd) : ASt := aSeq (t_law_3 z) (t_law_13 z)
abbrev t_law_15 (z : Wd) : ASt := aSeq (t_law_2 z) (t_law_14 z)
abbrev t_law_16 (z : Wd) : ASt := aSeq (t_law_1 z) (t_law_15 z)
abbrev t_law (z : Wd) : ASt := (t_law_16 z)
theorem d_law {P : Program} {w : World} {z : Wd} {mg : Str → Option Value} {base : Heap} {f : Addr} (nb : Nb mg) (c_law_source : Cal P w z.K mg base 1 "_law_source" st_law_source ps_law_source (sp_law_source z)) (c_law_word : Cal P w z.K mg base 2 "_law_word" st_law_word Sh.ps_law_word (Sh.sp_law_word z)) (c_law_quarters_right : Cal P w z.K mg base 4 "_law_quarters_right" st_law_quarters_right ps_law_quarters_right (sp_law_quarters_right z)) (c_law_kinds_right : Cal P w z.K mg base 6 "_law_kinds_right" st_law_kinds_right ps_law_kinds_right (sp_law_kinds_right z)) (g_COLUMNS : GT z.K mg "COLUMNS" [(tI [0, 4, 8, 12]), (tI [1, 5, 9, 13]), (tI [2, 6, 10, 14]), (tI [3, 7, 11, 15])]) (g_DIAGONALS : GT z.K mg "DIAGONALS" [(tI [0, 5, 10, 15]), (tI [1, 6, 11, 12]), (tI [2, 7, 8, 13]), (tI [3, 4, 9, 14])]) : DefD P w z.K mg base N_law "law" st_law f 6 (t_law z) := fun cdv A outer s H E B W hr hg tk hp => by
  have hu := hr.un
  replace hu : (BX P w z.K mg base N_law "law" st_law f cdv A outer s H E).A.units + 64 < cLine := by omega
  exact (qss_cons (qs_set 1 sc_law.nd (qe_call c_law_source (hr.mono (by decide)) hg tk b_law_source_2 (qa_cons (qe_var 0) (qa_cons qe_int qa_nil)) qk_nil))
    (qss_cons (qs_set 2 sc_law.nd (qe_callT ct_tuple rfl nb.tuple_ bT_tuple (qa_cons (qe_lcF (own := [("at", 6)]) rfl sc_law.nd (qi_range1 rfl nb.range_ (qa_cons qe_int qa_nil)) (blkOk_by (N := N_law) (sc := defScope st_law) (by decide +kernel)) (fun _ h => h) (fun _ _ _ _ _ => (qg_name 6 sc_law.nd)) (fun _ _ _ _ _ => qts_nil) (fun _ _ _ _ _ => (qe_tup (qa_cons (qe_var 6) (qa_cons (qe_addF qe_int (qe_var 6)) (qa_cons (qe_addF qe_int (qe_var 6)) (qa_cons (qe_addF qe_int (qe_var 6)) qa_nil))))))) qa_nil)))
    (qss_cons (qs_set 3 sc_law.nd (qe_tup (qa_cons (qe_tup (qa_cons qe_int (qa_cons qe_int (qa_cons qe_int (qa_cons qe_int qa_nil))))) (qa_cons (qe_tup (qa_cons qe_int (qa_cons qe_int (qa_cons qe_int (qa_cons qe_int qa_nil))))) (qa_cons (qe_tup (qa_cons qe_int (qa_cons qe_int (qa_cons qe_int (qa_cons qe_int qa_nil))))) (qa_cons (qe_tup (qa_cons qe_int (qa_cons qe_int (qa_cons qe_int (qa_cons qe_int qa_nil))))) qa_nil))))))
    (qss_cons (qs_if (qt_w (qw_or (qt_cmp (c_ne hu) (qe_callB (cb_repr hu hg) rfl nb.repr_ bB_repr (qa_cons (qe_gtup g_COLUMNS) qa_nil)) (qe_callB (cb_repr hu hg) rfl nb.repr_ bB_repr (qa_cons (qe_var 2) qa_nil))) (qw_or1 (qt_cmp (c_ne hu) (qe_callB (cb_repr hu hg) rfl nb.repr_ bB_repr (qa_cons (qe_gtup g_DIAGONALS) qa_nil)) (qe_callB (cb_repr hu hg) rfl nb.repr_ bB_repr (qa_cons (qe_var 3) qa_nil)))))) (qss_one (qs_ret qe_bl)) qss_nil)
    (qss_cons (qs_for hp rfl (qi_range1 rfl nb.range_ (qa_cons qe_int qa_nil)) (qg_name 4 sc_law.nd) (qss_cons (qs_set 5 sc_law.nd (qe_callT ct_tuple rfl nb.tuple_ bT_tuple (qa_cons (qe_lcF (own := [("turn", 7)]) rfl sc_law.nd (qi_range1 rfl nb.range_ (qa_cons qe_int qa_nil)) (blkOk_by (N := N_law) (sc := defScope st_law) (by decide +kernel)) (fun _ h => h) (fun _ _ _ _ _ => (qg_name 7 sc_law.nd)) (fun _ _ _ _ _ => qts_nil) (fun _ _ _ _ _ => (qe_call c_law_word (hr.mono (by decide)) hg takes0 b_law_word_1 (qa_cons (qe_var 1) qa_nil) qk_nil))) qa_nil)))
    (qss_one (qs_if (qt_not (qt_truth (qe_call c_law_quarters_right (hr.mono (by decide)) hg tk b_law_quarters_right_2 (qa_cons (qe_var 1) (qa_cons (qe_var 5) qa_nil)) qk_nil))) (qss_one (qs_ret qe_bl)) qss_nil))))
    (qss_one (qs_ret (qe_call c_law_kinds_right (hr.mono (by decide)) hg tk b_law_kinds_right_1 (qa_cons (qe_var 1) qa_nil) qk_nil))))))))
/-- what the classes are -/
structure Ok (z : Wd) : Prop where
end K15
/-! lengths, drawing functions (printed by gen4.py) -/
namespace K15
open PySem PySem.Spec L2 HA
theorem len_law_source (z : Wd) : ∀ ds M Q E, spSrcT ds M Q E → ds.length = ps_law_source.length := by
  intro ds M Q E h; repeat (first | (obtain ⟨rfl, _⟩ := h; rfl) | (obtain ⟨rfl | rfl, _⟩ := h <;> rfl) | (obtain ⟨_, h⟩ := h))
theorem v_law_source (z : Wd) (ok : Ok z) : ∀ ds M Q E, spSrcT ds M Q E → t_law_source z (anyE Q E) (startA N_law_source ds) M :=
  v_src (aOp bAddF (aC (.int 2017)) (aOp oMul (aC (.int 6007)) (aVar 1))) 2147483549 37 (by decide) fun ns b cs M Q E h0 h1 q => ⟨MulOk.left (by decide) (by decide), q _ (by omega) (by omega)⟩
theorem len_law_any (z : Wd) : ∀ ds M Q E, spAnyT ds M Q E → ds.length = ps_law_any.length := by
  intro ds M Q E h; repeat (first | (obtain ⟨rfl, _⟩ := h; rfl) | (obtain ⟨rfl | rfl, _⟩ := h <;> rfl) | (obtain ⟨_, h⟩ := h))
theorem v_law_any (z : Wd) (ok : Ok z) : ∀ ds M Q E, spAnyT ds M Q E → t_law_any z (anyE Q E) (startA N_law_any ds) M := v_any 37 wInt id (by decide) (fun _ => .inl rfl) (fun _ => .inr rfl)
theorem len_law_places (z : Wd) : ∀ ds M Q E, sp_law_places z ds M Q E → ds.length = ps_law_places.length := by
  intro ds M Q E h; repeat (first | (obtain ⟨rfl, _⟩ := h; rfl) | (obtain ⟨rfl | rfl, _⟩ := h <;> rfl) | (obtain ⟨_, h⟩ := h))
theorem len_law_is_row (z : Wd) : ∀ ds M Q E, sp_law_is_row z ds M Q E → ds.length = ps_law_is_row.length := by
  intro ds M Q E h; repeat (first | (obtain ⟨rfl, _⟩ := h; rfl) | (obtain ⟨rfl | rfl, _⟩ := h <;> rfl) | (obtain ⟨_, h⟩ := h))
theorem len_law_quarters_right (z : Wd) : ∀ ds M Q E, sp_law_quarters_right z ds M Q E → ds.length = ps_law_quarters_right.length := by
  intro ds M Q E h; repeat (first | (obtain ⟨rfl, _⟩ := h; rfl) | (obtain ⟨rfl | rfl, _⟩ := h <;> rfl) | (obtain ⟨_, h⟩ := h))
theorem len_law_of (z : Wd) : ∀ ds M Q E, sp_law_of z ds M Q E → ds.length = ps_law_of.length := by
  intro ds M Q E h; repeat (first | (obtain ⟨rfl, _⟩ := h; rfl) | (obtain ⟨rfl | rfl, _⟩ := h <;> rfl) | (obtain ⟨_, h⟩ := h))
theorem v_law_of (z : Wd) (ok : Ok z) : ∀ ds M Q E, spOf ds M Q E → t_law_of z (anyE Q E) (startA N_law_of ds) M := v_of
theorem len_law_bent (z : Wd) : ∀ ds M Q E, sp_law_bent z ds M Q E → ds.length = ps_law_bent.length := by
  intro ds M Q E h; repeat (first | (obtain ⟨rfl, _⟩ := h; rfl) | (obtain ⟨rfl | rfl, _⟩ := h <;> rfl) | (obtain ⟨_, h⟩ := h))
theorem len_is_state (z : Wd) : ∀ ds M Q E, sp_is_state z ds M Q E → ds.length = ps_is_state.length := by
  intro ds M Q E h; repeat (first | (obtain ⟨rfl, _⟩ := h; rfl) | (obtain ⟨rfl | rfl, _⟩ := h <;> rfl) | (obtain ⟨_, h⟩ := h))
theorem len_is_cipher_key (z : Wd) : ∀ ds M Q E, sp_is_cipher_key z ds M Q E → ds.length = ps_is_cipher_key.length := by
  intro ds M Q E h; repeat (first | (obtain ⟨rfl, _⟩ := h; rfl) | (obtain ⟨rfl | rfl, _⟩ := h <;> rfl) | (obtain ⟨_, h⟩ := h))
theorem len_is_nonce (z : Wd) : ∀ ds M Q E, sp_is_nonce z ds M Q E → ds.length = ps_is_nonce.length := by
  intro ds M Q E h; repeat (first | (obtain ⟨rfl, _⟩ := h; rfl) | (obtain ⟨rfl | rfl, _⟩ := h <;> rfl) | (obtain ⟨_, h⟩ := h))
theorem len_law_kinds_right (z : Wd) : ∀ ds M Q E, sp_law_kinds_right z ds M Q E → ds.length = ps_law_kinds_right.length := by
  intro ds M Q E h; repeat (first | (obtain ⟨rfl, _⟩ := h; rfl) | (obtain ⟨rfl | rfl, _⟩ := h <;> rfl) | (obtain ⟨_, h⟩ := h))
theorem len_law (z : Wd) : ∀ ds M Q E, sp_law z ds M Q E → ds.length = ps_law.length := by
  intro ds M Q E h; repeat (first | (obtain ⟨rfl, _⟩ := h; rfl) | (obtain ⟨rfl | rfl, _⟩ := h <;> rfl) | (obtain ⟨_, h⟩ := h))
end K15
set_option maxHeartbeats 1000000
namespace K15
open PySem PySem.Spec L2 HA Sh
theorem perm_erase : ∀ (l : List Int) (k : Nat) (h : k < l.length), (l[k] :: l.eraseIdx k).Perm l
  | [], _, h => absurd h (by simp)
  | x :: r, 0, _ => List.Perm.refl _
  | x :: r, k + 1, h => by
    have hk : k < r.length := by simpa using h
    have ih := perm_erase r k hk
    show (r[k] :: x :: r.eraseIdx k).Perm (x :: r)
    exact (List.Perm.swap _ _ _).trans (ih.cons x)
theorem nodup_rng : ((List.range 16).map fun (i : Nat) => (0 + (i : Int))).Nodup := by decide
theorem v_law_places (z : Wd) (ok : Ok z) : ∀ ds M Q E, sp_law_places z ds M Q E → t_law_places z (pureE M Q E) (startA N_law_places ds) M := (by exact HA.Wq.get : @HA.Wq (∀ ds M Q E, sp_law_places z ds M Q E → t_law_places z (pureE M Q E) (startA N_law_places ds) M) (by
  intro ds M Q E ⟨x, h, hd, q⟩
  subst h
  walk_at "start"
  walk_at "r"
  intro p hp
  have e16 : rangeD 0 (16 : Int).toNat = ((List.range 16).map fun (i : Nat) => (0 + (i : Int))).map D.int := by unfold rangeD; rw [List.map_map]; rfl
  rw [e16]
  walk_at "r"
  intro p2 hp2
  have hpp : p2 ≠ p := fun e => by subst e; rw [mset_same] at hp2; exact nomatch hp2
  have hp20 : M p2 = none := by rw [mset_ne hpp] at hp2; exact hp2
  walk_at "r"
  refine for_range (n := 4) (fun i σ M' => ∃ (ls fs : List Int) (o3 : Option D), M' = mset (mset M p (.lst (ls.map .int))) p2 (.lst (fs.map .int)) ∧ ((fs ++ ls).Nodup ∧ fs.length = i ∧ ls.length + i = 16 ∧ ∀ k ∈ fs ++ ls, 0 ≤ k ∧ k < 16) ∧ σ = [some x, some (.ref p), some (.ref p2), o3]) (by decide) ⟨_, [], _, rfl, ⟨nodup_rng, rfl, by decide, by decide⟩, rfl⟩ ?_ ?_
  · rintro i hi σ M' ⟨ls, fs, o3, rfl, ⟨hn, hf, hl, hk⟩, rfl⟩
    have hdd : Deal (mset (mset M p (.lst (ls.map .int))) p2 (.lst (fs.map .int))) x := hd.up ((MLe.new hp).trans (MLe.new (by rw [mset_ne hpp]; exact hp20)))
    have hL : mset (mset M p (.lst (ls.map .int))) p2 (.lst (fs.map .int)) p = some (.lst (ls.map .int)) := by rw [mset_ne hpp.symm, mset_same]
    walk_at "r"
    intro r r0 r1
    rw [List.length_map] at r1
    obtain ⟨k, rfl⟩ : ∃ k : Nat, r = (k : Int) := ⟨r.toNat, by omega⟩
    have hkl : k < ls.length := by omega
    walk_at "s"
    refine i_popat hL (by omega) (by omega) (by omega) ?_
    rw [Int.toNat_natCast]
    have ev : ls.getD k 0 = ls[k] := by rw [List.getD_eq_getElem?_getD, List.getElem?_eq_getElem hkl]; rfl
    have hperm : (fs ++ [ls.getD k 0] ++ ls.eraseIdx k).Perm (fs ++ ls) := by
      rw [List.append_assoc, ev]
      exact List.Perm.append_left fs (perm_erase ls k hkl)
    have hle := List.length_eraseIdx_of_lt hkl
    generalize ls.getD k 0 = v at *
    walk_at "s"
    refine i_append (xs := fs.map .int) (by rw [mset_ne hpp, mset_same]) (by rw [List.length_map, sizeLine_eq]; omega) ?_
    refine ⟨ls.eraseIdx k, fs ++ [v], _, ?_, ⟨hperm.nodup_iff.mpr hn, by simp [hf], by omega, fun k hk2 => hk k (hperm.mem_iff.mp hk2)⟩, rfl⟩
    rw [mset_comm hpp.symm, mset_mset, mset_comm hpp, mset_mset, List.map_append]; rfl
  · rintro σ M' ⟨ls, fs, o3, rfl, ⟨hn, hf, hl, hk⟩, rfl⟩
    refine ⟨trivial, ?_⟩
    match fs, hf with
    | [a, b, c, d], _ =>
      have ha := hk a (by simp)
      have hb := hk b (by simp)
      have hc := hk c (by simp)
      have hd' := hk d (by simp)
      have hn4 := (List.nodup_append.mp hn).1
      simp only [List.nodup_cons, List.mem_cons, List.not_mem_nil, or_false, not_or] at hn4
      obtain ⟨a, rfl⟩ : ∃ k : Nat, a = (k : Int) := ⟨a.toNat, by omega⟩
      obtain ⟨b, rfl⟩ : ∃ k : Nat, b = (k : Int) := ⟨b.toNat, by omega⟩
      obtain ⟨c, rfl⟩ : ∃ k : Nat, c = (k : Int) := ⟨c.toNat, by omega⟩
      obtain ⟨d, rfl⟩ : ∃ k : Nat, d = (k : Int) := ⟨d.toNat, by omega⟩
      have q := q a b c d (by unfold Sh.In; dsimp only; omega) (by unfold Dis; dsimp only; omega)
      walk_at "s"
      walk_at "s"
      walk_at "s"
      exact q))
theorem c_law_places (z : Wd) {x : D} {M : Mem} {Q : DK} {E : AX} (hd : Deal M x) (q : ∀ i j k l : Nat, In 16 (i, j, k, l) → Dis (i, j, k, l) → Q (lI [(i : Int), j, k, l]) M) : sp_law_places z [x] M Q E := ⟨x, rfl, hd, q⟩
theorem v_law_is_row (z : Wd) (ok : Ok z) : ∀ ds M Q E, sp_law_is_row z ds M Q E → t_law_is_row z (pureE M Q E) (startA N_law_is_row ds) M := (by exact HA.Wq.get : @HA.Wq (∀ ds M Q E, sp_law_is_row z ds M Q E → t_law_is_row z (pureE M Q E) (startA N_law_is_row ds) M) (by
  intro ds M Q E ⟨x, n, b, h, ⟨ha, ht⟩, q⟩
  subst h
  walk_at "start"
  cases x with
  | frz _ => exact ha.elim
  | ref _ => exact ha.elim
  | ty _ => exact ha.elim
  | tup xs =>
    obtain ⟨hl, hm⟩ := ht xs rfl
    unfold rowQ at q
    dsimp only at q
    walk_at "r"
    by_cases hln : xs.length = n
    · rw [decide_eq_true hln, Bool.true_and] at q
      rw [decide_eq_true (show (xs.length : Int) = n by omega)]
      walk_at "r"
      refine for_list (l := xs) (enc := id) (fun pre σ M' => M' = M ∧ (∀ d ∈ pre, belQ d b = true) ∧ ∃ o3 : Option D, σ = [some (.tup xs), some (.int n), some (.int b), o3]) (by simp) ⟨rfl, by simp, _, rfl⟩ ?_ ?_
      · rintro pre d rest e σ M' ⟨rfl, hp, o3, rfl⟩
        have hd := hm d (by rw [e]; simp)
        have hall : belQ d b = false → xs.all (fun d => belQ d b) = false := fun h => by
          rw [List.all_eq_false]; exact ⟨d, by rw [e]; simp, by rw [h]; decide⟩
        have hgo : belQ d b = true → ∀ y ∈ pre ++ [d], belQ y b = true := fun h y hy => by
          rcases List.mem_append.mp hy with hy | hy
          · exact hp y hy
          · rw [List.mem_singleton.mp hy]; exact h
        show True ∧ _
        cases d with
        | frz _ => exact hd.elim
        | ref _ => exact hd.elim
        | ty _ => exact hd.elim
        | int i =>
          walk_at "r"
          refine br (fun h => ?_) (fun h => ?_)
          · rw [hall (decide_eq_false fun x => by omega)] at q
            walk_at "r"
            exact q
          · walk_at "r"
            refine br (fun h2 => ?_) (fun h2 => ?_)
            · rw [hall (decide_eq_false fun x => by omega)] at q
              walk_at "r"
              exact q
            · walk_at "r"
              exact ⟨rfl, hgo (decide_eq_true ⟨by omega, by omega⟩), _, rfl⟩
        | lst l =>
          rw [hall rfl] at q
          walk_at "r"
          refine i_isiF (S := "list") ⟨rfl, _, rfl⟩ (by decide) (by decide) ?_
          walk_at "r"; exact q
        | _ =>
          rw [hall rfl] at q
          walk_at "r"; exact q
      · rintro σ M' ⟨rfl, hp, o3, rfl⟩
        rw [List.all_eq_true.mpr fun d hd => hp d hd] at q
        walk_at "r"
        exact q
    · rw [decide_eq_false hln, Bool.false_and] at q
      rw [decide_eq_false (show ¬ (xs.length : Int) = n by omega)]
      walk_at "r"
      exact q
  | lst l =>
    walk_at "r"
    refine i_isiF (S := "list") ⟨rfl, _, rfl⟩ (by decide) (by decide) ?_
    walk_at "r"; exact q
  | _ => walk_at "r"; exact q))
theorem c_law_is_row (z : Wd) {x : D} {n : Nat} {i b : Int} {M : Mem} {Q : DK} {E : AX} (ei : i = n) (hx : AnyT x) (q : Q (.bl (rowQ n b x)) M) : sp_law_is_row z [x, .int i, .int b] M Q E := ⟨x, n, b, by rw [ei], hx, q⟩
theorem v_is_state (z : Wd) (ok : Ok z) : ∀ ds M Q E, sp_is_state z ds M Q E → t_is_state z (pureE M Q E) (startA N_is_state ds) M := (by exact HA.Wq.get : @HA.Wq (∀ ds M Q E, sp_is_state z ds M Q E → t_is_state z (pureE M Q E) (startA N_is_state ds) M) (by
  intro ds M Q E ⟨x, h, ⟨ha, ht⟩, q⟩
  subst h
  walk_at "start"
  cases x with
  | frz _ => exact ha.elim
  | ref _ => exact ha.elim
  | ty _ => exact ha.elim
  | tup xs =>
    obtain ⟨hl, hm⟩ := ht xs rfl
    unfold rowQ at q
    dsimp only at q
    walk_at "r"
    by_cases hln : xs.length = 16
    · rw [decide_eq_true hln, Bool.true_and] at q
      rw [decide_eq_true (show (xs.length : Int) = 16 by omega)]
      walk_at "r"
      refine lc_map (l := xs) (enc := id) (f := fun d => .bl (belQ d 4294967296)) (by simp) (fun _ _ => trivial) (sz_le (by omega)) (fun d hd M' P N hM2 hP => ?_) ?_
      · walk_at "r"
        refine c_is_below z (hm d hd) ?_
        exact hP
      · have el : (xs.map fun d => D.bl (belQ d 4294967296)) = (xs.map fun d => belQ d 4294967296).map D.bl := by rw [List.map_map]; rfl
        rw [el]
        walk_at "r"
        rw [show (xs.map fun d => belQ d 4294967296).all id = xs.all (fun d => belQ d 4294967296) by rw [List.all_map]; rfl]
        exact q
    · rw [decide_eq_false hln, Bool.false_and] at q
      rw [decide_eq_false (show ¬ (xs.length : Int) = 16 by omega)]
      walk_at "r"
      exact q
  | lst l =>
    walk_at "r"
    refine i_isiF (S := "list") ⟨rfl, _, rfl⟩ (by decide) (by decide) ?_
    walk_at "r"; exact q
  | _ => walk_at "r"; exact q))
theorem c_is_state (z : Wd) {x : D} {M : Mem} {Q : DK} {E : AX} (hx : AnyT x) (q : Q (.bl (rowQ 16 4294967296 x)) M) : sp_is_state z [x] M Q E := ⟨x, rfl, hx, q⟩
theorem oct_row {n : Nat} {x : D} (h : (ndO none x).isNone = true) : ∃ xs, x = .tup xs ∧ xs.all (fun d => belQ d 256) = true := (by exact HA.Wq.get : @HA.Wq (∃ xs, x = .tup xs ∧ xs.all (fun d => belQ d 256) = true) (by
  cases x with
  | tup xs =>
    refine ⟨xs, rfl, ?_⟩
    have go : ∀ (l : List D) (i : Nat), wrongAt none i l = none → l.all (fun d => belQ d 256) = true := fun l => by
      induction l with
      | nil => intro i _; rfl
      | cons y r ih =>
        intro i h
        unfold wrongAt at h
        split at h
        · exact nomatch h
        · rename_i hc
          have : belQ y 256 = true := by
            cases hb : belQ y 256 with
            | true => rfl
            | false => exact absurd (.inl hb) hc
          rw [List.all_cons, this, ih _ h]; rfl
    unfold ndO wpl at h
    dsimp only at h
    cases hw : wrongAt none 0 xs with
    | none => exact go xs 0 hw
    | some a => rw [hw] at h; exact nomatch h
  | _ => exact nomatch h))
theorem row_oct {n : Nat} {x : D} (h : (ndO none x).isNone = false) : rowQ n 256 x = false := (by exact HA.Wq.get : @HA.Wq (rowQ n 256 x = false) (by
  cases x with
  | tup xs =>
    have go : ∀ (l : List D) (i : Nat), l.all (fun d => belQ d 256) = true → wrongAt none i l = none := fun l => by
      induction l with
      | nil => intro i _; rfl
      | cons y r ih =>
        intro i h
        rw [List.all_cons, Bool.and_eq_true] at h
        unfold wrongAt
        rw [if_neg (by rw [h.1]; simp)]
        exact ih _ h.2
    unfold rowQ
    dsimp only
    cases ha : xs.all (fun d => belQ d 256) with
    | false => rw [Bool.and_false]
    | true =>
      unfold ndO wpl at h
      dsimp only at h
      rw [go xs 0 ha] at h
      exact nomatch h
  | _ => rfl))
theorem v_is_cipher_key (z : Wd) (ok : Ok z) : ∀ ds M Q E, sp_is_cipher_key z ds M Q E → t_is_cipher_key z (pureE M Q E) (startA N_is_cipher_key ds) M := (by exact HA.Wq.get : @HA.Wq (∀ ds M Q E, sp_is_cipher_key z ds M Q E → t_is_cipher_key z (pureE M Q E) (startA N_is_cipher_key ds) M) (by
  intro ds M Q E ⟨x, h, hx, q⟩
  subst h
  walk_at "start"
  walk_at "r"
  refine c_is_octets z hx ?_
  cases hb : (ndO none x).isNone with
  | false =>
    rw [row_oct hb] at q
    walk_at "r"
    exact q
  | true =>
    obtain ⟨xs, rfl, ha⟩ := oct_row (n := 32) hb
    unfold rowQ at q
    dsimp only at q
    rw [ha, Bool.and_true] at q
    walk_at "r"
    rw [Bool.false_xor]
    rw [show decide ((xs.length : Int) = 32) = decide (xs.length = 32) from decide_eq_decide.mpr ⟨fun h => by omega, fun h => by omega⟩]
    exact q))
theorem c_is_cipher_key (z : Wd) {x : D} {M : Mem} {Q : DK} {E : AX} (hx : AnyT x) (q : Q (.bl (rowQ 32 256 x)) M) : sp_is_cipher_key z [x] M Q E := ⟨x, rfl, hx, q⟩
theorem v_is_nonce (z : Wd) (ok : Ok z) : ∀ ds M Q E, sp_is_nonce z ds M Q E → t_is_nonce z (pureE M Q E) (startA N_is_nonce ds) M := (by exact HA.Wq.get : @HA.Wq (∀ ds M Q E, sp_is_nonce z ds M Q E → t_is_nonce z (pureE M Q E) (startA N_is_nonce ds) M) (by
  intro ds M Q E ⟨x, h, hx, q⟩
  subst h
  walk_at "start"
  walk_at "r"
  refine c_is_octets z hx ?_
  cases hb : (ndO none x).isNone with
  | false =>
    rw [row_oct hb] at q
    walk_at "r"
    exact q
  | true =>
    obtain ⟨xs, rfl, ha⟩ := oct_row (n := 12) hb
    unfold rowQ at q
    dsimp only at q
    rw [ha, Bool.and_true] at q
    walk_at "r"
    rw [Bool.false_xor]
    rw [show decide ((xs.length : Int) = 12) = decide (xs.length = 12) from decide_eq_decide.mpr ⟨fun h => by omega, fun h => by omega⟩]
    exact q))
theorem c_is_nonce (z : Wd) {x : D} {M : Mem} {Q : DK} {E : AX} (hx : AnyT x) (q : Q (.bl (rowQ 12 256 x)) M) : sp_is_nonce z [x] M Q E := ⟨x, rfl, hx, q⟩
end K15
set_option maxHeartbeats 1000000
namespace K15
open PySem PySem.Spec L2 HA Sh
theorem c_quarter4 (z : Wd) {q : Wd4} {M : Mem} {Q : DK} {E : AX} (hw : W4 q) (h : Q (tI (lineI (qrt q))) M) : sp_quarter z [.int q.1, .int q.2.1, .int q.2.2.1, .int q.2.2.2] M Q E := ⟨q, rfl, hw, h⟩
theorem c_unquarter4 (z : Wd) {q : Wd4} {M : Mem} {Q : DK} {E : AX} (hw : W4 q) (h : Q (tI (lineI (unq q))) M) : sp_unquarter z [.int q.1, .int q.2.1, .int q.2.2.1, .int q.2.2.2] M Q E := ⟨q, rfl, hw, h⟩
theorem c_quarter_at4 (z : Wd) {ws : List Nat} {L : Wd4} {M : Mem} {Q : DK} {E : AX} (hw : WsOk ws) (hL : Sh.In ws.length L) (hl : ws.length ≤ 100) (h : Q (tW (qat ws L)) M) : sp_quarter_at z [tW ws, tI (lineI L)] M Q E := ⟨ws, L, rfl, hw, hL, hl, h⟩
theorem line_small {q : Wd4} (h : W4 q) : SmallI (lineI q) := fun n hn => by
  obtain ⟨h1, h2, h3, h4⟩ := h
  unfold lineI at hn
  simp only [List.mem_cons, List.not_mem_nil, or_false] at hn
  exact sm64 (by omega)
theorem at4_qat {ws : List Nat} {L : Wd4} (hL : Sh.In ws.length L) (hd : Dis L) : at4 (qat ws L) L = qrt (at4 ws L) := (by exact HA.Wq.get : @HA.Wq (at4 (qat ws L) L = qrt (at4 ws L)) (by
  obtain ⟨i, j, k, l⟩ := L
  obtain ⟨h1, h2, h3, h4⟩ := hL
  obtain ⟨d1, d2, d3, d4, d5, d6⟩ := hd
  dsimp only at h1 h2 h3 h4 d1 d2 d3 d4 d5 d6
  unfold qat put4
  generalize qrt (at4 ws (i, j, k, l)) = q
  obtain ⟨a, b, c, d⟩ := q
  unfold at4
  simp only [List.getD_eq_getElem?_getD, List.getElem?_set, List.length_set]
  simp [h1, h2, h3, h4, d1, d2, d3, d4, d5, d6, d1.symm, d2.symm, d3.symm, d4.symm, d5.symm, d6.symm]))
theorem row4 {b x1 x2 x3 x4 : Int} (h1 : belQ (.int x1) b = true) (h2 : belQ (.int x2) b = true) (h3 : belQ (.int x3) b = true) (h4 : belQ (.int x4) b = true) : rowQ 4 b (.tup [.int x1, .int x2, .int x3, .int x4]) = true := by
  unfold rowQ
  simp [h1, h2, h3, h4]
theorem c_law_quarters_right (z : Wd) {x : D} {ws : List Nat} {M : Mem} {Q : DK} {E : AX} (hd : Deal M x) (hs : St ws) (q : Q (.bl true) M) : sp_law_quarters_right z [x, tW ws] M Q E := ⟨x, ws, rfl, hd, hs, q⟩
local macro_rules | `(tactic| walk_at "call") => `(tactic| first | ((with_reducible apply w_ix); (focus (walk_at "sd"; done)); (focus (walk_at "sd"; done)); walk_at "mm") | ((with_reducible apply w_ixt); (focus (walk_at "sd"; done)); walk_at "mm") | fail)
theorem v_law_quarters_right (z : Wd) (ok : Ok z) : ∀ ds M Q E, sp_law_quarters_right z ds M Q E → t_law_quarters_right z (pureE M Q E) (startA N_law_quarters_right ds) M := (by exact HA.Wq.get : @HA.Wq (∀ ds M Q E, sp_law_quarters_right z ds M Q E → t_law_quarters_right z (pureE M Q E) (startA N_law_quarters_right ds) M) (by
  intro ds M Q E ⟨x, ws, h, hd, ⟨hl, hw⟩, q⟩
  subst h
  walk_at "start"
  walk_at "r"
  refine c_law_places z hd fun i j k l hL hD => ?_
  have hL' : Sh.In ws.length (i, j, k, l) := by rw [hl]; exact hL
  walk_at "r"
  refine i_gtupL (ds := [.int i, .int j, .int k, .int l]) rfl ?_
  walk_at "r"
  intro p hp
  have hqa := at4_qat hL' hD
  have hlq : (qat ws (i, j, k, l)).length = 16 := by rw [qat_len]; exact hl
  have hwq : WsOk (qat ws (i, j, k, l)) := qat_ok hw
  walk_at "r"
  refine c_law_quarter z (ws := ws) (by rw [mset_same]) rfl rfl rfl rfl hw hL' hD ?_
  rw [mset_mset]
  have hP : mset M p (cW (qat ws (i, j, k, l))) p = some (cW (qat ws (i, j, k, l))) := mset_same
  have hle : MLe M (mset M p (cW (qat ws (i, j, k, l)))) := MLe.new hp
  generalize mset M p (cW (qat ws (i, j, k, l))) = M1 at *
  have hL2 := hL'
  obtain ⟨hi, hj, hk, hll⟩ : i < ws.length ∧ j < ws.length ∧ k < ws.length ∧ l < ws.length := hL'
  obtain ⟨hi2, hj2, hk2, hl2⟩ : i < (qat ws (i, j, k, l)).length ∧ j < (qat ws (i, j, k, l)).length ∧ k < (qat ws (i, j, k, l)).length ∧ l < (qat ws (i, j, k, l)).length   := by rw [qat_len]; exact hL2
  have e1 : (qat ws (i, j, k, l)).getD i 0 = (qrt (at4 ws (i, j, k, l))).1 := congrArg (·.1) hqa
  have e2 : (qat ws (i, j, k, l)).getD j 0 = (qrt (at4 ws (i, j, k, l))).2.1 := congrArg (·.2.1) hqa
  have e3 : (qat ws (i, j, k, l)).getD k 0 = (qrt (at4 ws (i, j, k, l))).2.2.1 := congrArg (·.2.2.1) hqa
  have e4 : (qat ws (i, j, k, l)).getD l 0 = (qrt (at4 ws (i, j, k, l))).2.2.2 := congrArg (·.2.2.2) hqa
  have hW := at4_W hw (i, j, k, l)
  have hQ4 := qrt_W hW
  have su := unq_qrt hW
  have hU := unq_W hW
  have qu := qrt_unq hW
  have m1 : SmallI (lineI (at4 ws (i, j, k, l))) := line_small hW
  have m2 : SmallI (lineI (qrt (at4 ws (i, j, k, l)))) := line_small hQ4
  have m3 : SmallI (wI (qat ws (i, j, k, l))) := wI_small hwq
  have hwl : (wI (qat ws (i, j, k, l))).length = 16 := by rw [wI_len]; exact hlq
  repeat ((fail_if_success (guard_target = t_law_quarters_right_29 z _ _ _)); walk_at "s")
  rw [e1, e2, e3, e4]
  have el : tI [((ws.getD i 0 : Nat) : Int), ((ws.getD j 0 : Nat) : Int), ((ws.getD k 0 : Nat) : Int), ((ws.getD l 0 : Nat) : Int)] = tI (lineI (at4 ws (i, j, k, l))) := rfl
  have er : tI [((qrt (at4 ws (i, j, k, l))).1 : Int), ((qrt (at4 ws (i, j, k, l))).2.1 : Int), ((qrt (at4 ws (i, j, k, l))).2.2.1 : Int), ((qrt (at4 ws (i, j, k, l))).2.2.2 : Int)] = tI (lineI (qrt (at4 ws (i, j, k, l)))) := rfl
  rw [el, er]
  obtain ⟨hA, ehA⟩ : ∃ A, A = at4 ws (i, j, k, l) := ⟨_, rfl⟩
  have hqat : ∀ {Q : DK} {E : AX}, Q (tW (qat ws (i, j, k, l))) M1 → sp_quarter_at z [tW ws, tI [(i : Int), (j : Int), (k : Int), (l : Int)]] M1 Q E := fun h => c_quarter_at4 z (L := (i, j, k, l)) hw hL2 (by omega) h
  obtain ⟨R, hR⟩ : ∃ R, R = qat ws (i, j, k, l) := ⟨_, rfl⟩
  rw [← hR] at hqat hP m3 hwl hlq
  rw [← ehA] at hW hQ4 su hU qu m1 m2 ⊢
  clear e1 e2 e3 e4 hi2 hj2 hk2 hl2
  have l1 : (lineI hA).length = 4 := rfl
  have l2 : (lineI (qrt hA)).length = 4 := rfl
  have l3 : (lineI (unq hA)).length = 4 := rfl
  walk_at "r"
  refine c_quarter4 z hW ?_
  walk_at "r"
  refine c_quarter4 z hW ?_
  walk_at "r"
  refine c_unquarter4 z hQ4 ?_
  rw [su]
  walk_at "r"
  refine hqat ?_
  walk_at "r"
  refine hqat ?_
  walk_at "r"
  refine c_unquarter4 z hW ?_
  obtain ⟨B, hB⟩ : ∃ B, B = unq hA := ⟨_, rfl⟩
  rw [← hB] at hU qu l3 ⊢
  walk_at "r"
  have hrow : rowQ 4 4294967296 (tI (lineI B)) = true := by
    obtain ⟨b1, b2, b3, b4⟩ := hU
    have kk : ∀ n : Nat, n < 2 ^ 32 → belQ (.int (n : Int)) 4294967296 = true := fun n h => by
      unfold belQ; dsimp only
      have h' : (n : Int) < 4294967296 := by omega
      exact decide_eq_true (p := 0 ≤ (n : Int) ∧ (n : Int) < 4294967296) ⟨by omega, h'⟩
    exact row4 (kk _ b1) (kk _ b2) (kk _ b3) (kk _ b4)
  have hany : AnyT (tI (lineI B)) := ⟨trivial, fun xs e => by cases e; exact ⟨by rw [List.length_map]; omega, fun d hd => by obtain ⟨i, _, rfl⟩ := List.mem_map.mp hd; trivial⟩⟩
  refine c_law_is_row z (n := 4) rfl hany ?_
  rw [hrow]
  walk_at "r"
  intro p2 hp2
  walk_at "r"
  have hC : mset M1 p2 (.lst ((lineI B).map .int)) p2 = some (cW [B.1, B.2.1, B.2.2.1, B.2.2.2]) := mset_same
  have hwB : WsOk [B.1, B.2.1, B.2.2.1, B.2.2.2] := fun w hw => by
    obtain ⟨b1, b2, b3, b4⟩ := hU
    simp only [List.mem_cons, List.not_mem_nil, or_false] at hw
    omega
  refine c_law_quarter z (i := 0) (j := 1) (k := 2) (l := 3) hC rfl rfl rfl rfl hwB (show (0 : Nat) < 4 ∧ (1 : Nat) < 4 ∧ (2 : Nat) < 4 ∧ (3 : Nat) < 4 by decide) (by unfold Dis; decide) ?_
  have eq4 : cW (qat [B.1, B.2.1, B.2.2.1, B.2.2.2] (0, 1, 2, 3)) = .lst ((lineI hA).map .int) := by
    have : at4 [B.1, B.2.1, B.2.2.1, B.2.2.2] (0, 1, 2, 3) = B := rfl
    unfold qat
    rw [this, qu]
    rfl
  rw [eq4, mset_mset]
  have hle2 : MLe M (mset M1 p2 (.lst ((lineI hA).map .int))) := hle.trans (MLe.new hp2)
  have hP2 : mset M1 p2 (.lst ((lineI hA).map .int)) p2 = some (.lst ((lineI hA).map .int)) := mset_same
  clear hC eq4 hwB hqat
  generalize mset M1 p2 (.lst ((lineI hA).map .int)) = M2 at *
  walk_at "s"
  walk_at "s"
  walk_at "s"
  walk_at "s"
  walk_at "s"
  walk_at "s"
  walk_at "s"
  walk_at "s"
  refine i_eqtI ?_
  rw [show (false ^^ decide (lineI hA = lineI hA)) = true by simp]
  exact ⟨hle2, q⟩))
end K15
set_option maxHeartbeats 1000000
namespace K15
open PySem PySem.Spec L2 HA Sh
theorem bn_tup {n : Nat} {xs : List D} (h : ∀ d ∈ xs, Any1 d) (hl : xs.length = n ∨ xs.length + 1 = n ∨ xs.length = n + 1 ∨ xs.length ≤ 1) (hn : n ≤ 64) : Bn n (.tup xs) := ⟨⟨trivial, fun ys e => by cases e; exact ⟨by omega, h⟩⟩, fun ys e => by cases e; exact hl⟩
theorem bn_flat {n : Nat} {d : D} (h : Any1 d) (hn : ∀ xs, d ≠ .tup xs) : Bn n d := ⟨⟨h, fun xs e => absurd e (hn xs)⟩, fun xs e => absurd e (hn xs)⟩
theorem any_ints {ns : List Int} : ∀ d ∈ ns.map D.int, Any1 d := fun d hd => by obtain ⟨i, _, rfl⟩ := List.mem_map.mp hd; trivial
theorem fz_any {M : Mem} {Q : DK} {d : D} (h : Any1 d) (q : Q d M) : fzD M M d fun d' => Q d' M := by
  cases d with
  | ref _ => exact h.elim
  | _ => exact ⟨.refl _, q⟩
theorem v_law_bent (z : Wd) (ok : Ok z) : ∀ ds M Q E, sp_law_bent z ds M Q E → t_law_bent z (pureE M Q E) (startA N_law_bent ds) M := (by exact HA.Wq.get : @HA.Wq (∀ ds M Q E, sp_law_bent z ds M Q E → t_law_bent z (pureE M Q E) (startA N_law_bent ds) M) (by
  intro ds M Q E ⟨x, n, b, h, hd, n1, n2, b1, b2, q⟩
  subst h
  walk_at "start"
  walk_at "r"
  refine lc_rrel (n := n) (fun _ d => ∃ i : Int, d = .int i) (by omega) (fun _ _ => trivial) (sz_le (by omega)) ?_ ?_
  · intro i hi M' P N hM hP
    walk_at "r"
    intro r r0 r1
    walk_at "r"
    intro k hk
    walk_at "r"
    exact hP _ ⟨_, rfl⟩
  · intro ys hl hy
    obtain ⟨ns, rfl⟩ := all_ints hy
    rw [List.length_map] at hl
    have e0 : D.lst (ns.map .int) = lI ns := rfl
    rw [e0]
    walk_at "r"
    intro kd k0 k1
    walk_at "r"
    intro at' a0 a1
    obtain ⟨a, rfl⟩ : ∃ k : Nat, at' = (k : Int) := ⟨at'.toNat, by omega⟩
    have eneg : (-1 + (ns.length : Int)).toNat = ns.length - 1 := by omega
    walk_at "r"
    refine br (fun h => ?_) (fun h => ?_)
    · rcases (show kd = 0 ∨ kd = 1 by omega) with rfl | rfl
      · walk_at "r"
        exact q _ (bn_tup any_ints (.inl (by simpa using hl)) n2)
      · walk_at "r"
        exact q _ (bn_flat trivial fun xs e => nomatch e)
    · walk_at "r"
      refine br (fun h2 => ?_) (fun h2 => ?_)
      · rcases (show kd = 2 ∨ kd = 3 ∨ kd = 4 by omega) with rfl | rfl | rfl
        · walk_at "r"
          rw [eneg]
          walk_at "r"
          exact q _ (bn_tup any_ints (.inr (.inl (by rw [List.length_map, List.length_take]; omega))) n2)
        · walk_at "r"
          exact q _ (bn_tup any_ints (.inr (.inr (.inl (by rw [List.length_map, List.length_append]; simp; omega)))) n2)
        · walk_at "r"
          exact q _ (bn_tup (xs := []) (fun _ h => nomatch h) (.inr (.inr (.inr (by decide)))) n2)
      · walk_at "r"
        refine br (fun h3 => ?_) (fun h3 => ?_)
        · walk_at "r"
          refine i_mulS (by omega) (by decide) fun y => ?_
          walk_at "r"
          intro d hd2
          simp only [List.mem_cons, List.not_mem_nil, or_false] at hd2
          have h9 : Any1 d ∧ Q d M := by
            rcases hd2 with rfl | rfl | rfl | rfl | rfl
            · exact ⟨trivial, q _ (bn_flat trivial (by simp))⟩
            · exact ⟨trivial, q _ (bn_flat trivial (by simp))⟩
            · exact ⟨trivial, q _ (bn_flat trivial (by simp))⟩
            · exact ⟨trivial, q _ (bn_tup (fun d h => by rw [List.mem_singleton.mp h]; trivial) (.inr (.inr (.inr (by simp)))) n2)⟩
            · exact ⟨trivial, q _ (bn_flat trivial (by simp))⟩
          exact fz_any h9.1 h9.2
        · walk_at "r"
          intro d hd2
          simp only [List.mem_cons, List.not_mem_nil, or_false] at hd2
          have h9 : Any1 d := by
            rcases hd2 with rfl | rfl | rfl | rfl | rfl | rfl | rfl | rfl | rfl | rfl | rfl | rfl | rfl <;> trivial
          walk_at "r"
          refine i_addl (xs := (ns.take a).map .int) (ys := [d]) (sz_le (by simp; omega)) ?_
          walk_at "r"
          refine i_addl (ys := (ns.drop (a + 1)).map .int) (sz_le (by simp; omega)) ?_
          walk_at "r"
          refine q _ (bn_tup (fun y hy => ?_) (.inl (by simp; omega)) n2)
          rcases List.mem_append.mp hy with hy | hy
          · rcases List.mem_append.mp hy with hy | hy
            · exact any_ints y hy
            · rw [List.mem_singleton.mp hy]; exact h9
          · exact any_ints y hy))
theorem c_law_bent (z : Wd) {x : D} {n : Nat} {i b : Int} {M : Mem} {Q : DK} {E : AX} (ei : i = n) (hd : Deal M x) (n1 : 2 ≤ n) (n2 : n ≤ 64) (b1 : 2 ≤ b) (b2 : b ≤ 4294967296) (q : ∀ v : D, Bn n v → Q v M) : sp_law_bent z [x, .int i, .int b] M Q E := ⟨x, n, b, by rw [ei], hd, n1, n2, b1, b2, q⟩
theorem row_bn {n k : Nat} {b : Int} {v : D} (h : Bn n v) (h1 : k ≠ n) (h2 : k + 1 ≠ n) (h3 : k ≠ n + 1) (h4 : 2 ≤ k) : rowQ k b v = false := (by exact HA.Wq.get : @HA.Wq (rowQ k b v = false) (by
  cases v with
  | tup xs =>
    have := h.2 xs rfl
    unfold rowQ
    dsimp only
    rw [decide_eq_false (by omega), Bool.false_and]
  | _ => rfl))
theorem v_law_kinds_right (z : Wd) (ok : Ok z) : ∀ ds M Q E, sp_law_kinds_right z ds M Q E → t_law_kinds_right z (pureE M Q E) (startA N_law_kinds_right ds) M := (by exact HA.Wq.get : @HA.Wq (∀ ds M Q E, sp_law_kinds_right z ds M Q E → t_law_kinds_right z (pureE M Q E) (startA N_law_kinds_right ds) M) (by
  intro ds M Q E ⟨x, h, hd, q⟩
  subst h
  walk_at "start"
  walk_at "r"
  refine for_range (n := 2) (fun i σ M' => M' = M ∧ ∃ o1 o2 o3 o4 : Option D, σ = [some x, o1, o2, o3, o4]) (by decide) ⟨rfl, _, _, _, _, rfl⟩ ?_ ?_
  · rintro i hi σ M' ⟨rfl, o1, o2, o3, o4, rfl⟩
    walk_at "r"
    refine c_law_bent z (n := 16) rfl hd (by decide) (by decide) (by decide) (by decide) fun s hs => ?_
    walk_at "r"
    refine c_law_bent z (n := 32) rfl hd (by decide) (by decide) (by decide) (by decide) fun k hk => ?_
    walk_at "r"
    refine c_law_bent z (n := 12) rfl hd (by decide) (by decide) (by decide) (by decide) fun n hn => ?_
    have r1 : rowQ 16 4294967296 k = false := row_bn hk (by decide) (by decide) (by decide) (by decide)
    have r2 : rowQ 32 256 n = false := row_bn hn (by decide) (by decide) (by decide) (by decide)
    have r3 : rowQ 12 256 s = false := row_bn hs (by decide) (by decide) (by decide) (by decide)
    walk_at "r"
    refine c_is_state z hs.1 ?_
    walk_at "r"
    refine c_law_is_row z (n := 16) rfl hs.1 ?_
    walk_at "r"
    refine c_is_state z hk.1 ?_
    rw [r1]
    walk_at "r"
    refine c_is_cipher_key z hk.1 ?_
    walk_at "r"
    refine c_law_is_row z (n := 32) rfl hk.1 ?_
    walk_at "r"
    refine c_is_cipher_key z hn.1 ?_
    rw [r2]
    walk_at "r"
    refine c_is_nonce z hn.1 ?_
    walk_at "r"
    refine c_law_is_row z (n := 12) rfl hn.1 ?_
    walk_at "r"
    refine c_is_nonce z hs.1 ?_
    rw [r3]
    walk_at "r"
    exact ⟨rfl, _, _, _, _, rfl⟩
  · rintro σ M' ⟨rfl, o1, o2, o3, o4, rfl⟩
    walk_at "r"
    exact q))
theorem c_law_kinds_right (z : Wd) {x : D} {M : Mem} {Q : DK} {E : AX} (hd : Deal M x) (q : Q (.bl true) M) : sp_law_kinds_right z [x] M Q E := ⟨x, rfl, hd, q⟩
end K15
set_option maxHeartbeats 1000000
namespace K15
open PySem PySem.Spec L2 HA Sh
theorem c_law_kinds_right' (z : Wd) {x : D} {M : Mem} {Q : DK} {E : AX} (hd : Deal M x) (q : Q (.bl true) M) : sp_law_kinds_right z [x] M Q E := ⟨x, rfl, hd, q⟩
theorem c_law_word' (z : Wd) {x : D} {M : Mem} {Q : DK} {E : AX} (hd : Deal M x) (q : ∀ w : Nat, w < 2 ^ 32 → Q (.int w) M) : sp_law_word z [x] M Q E := ⟨x, rfl, hd, q⟩
theorem v_law (z : Wd) (ok : Ok z) : ∀ ds M Q E, sp_law z ds M Q E → t_law z (anyE Q E) (startA N_law ds) M := (by exact HA.Wq.get : @HA.Wq (∀ ds M Q E, sp_law z ds M Q E → t_law z (anyE Q E) (startA N_law ds) M) (by
  intro ds M Q E ⟨cells, h, hl, hb, hM, q⟩
  subst h
  walk_at "start"
  walk_at "r"
  refine ⟨cells, 15, rfl, hl, hb, ⟨by decide, by decide⟩, fun dl M1 hM1 hdl0 hdl => ?_⟩
  walk_at "r"
  refine lc_range (n := 4) (f := fun i => tI [0 + (i : Int), 4 + (0 + (i : Int)), 8 + (0 + (i : Int)), 12 + (0 + (i : Int))]) rfl (fun _ _ => trivial) (sz_le (by decide)) (fun i hi M' P N hM2 hP => ?_) ?_
  · walk_at "r"
    exact hP
  · have e4 : D.lst ((List.range 4).map fun (i : Nat) => tI [0 + (i : Int), 4 + (0 + (i : Int)), 8 + (0 + (i : Int)), 12 + (0 + (i : Int))]) = .lst [tI [0, 4, 8, 12], tI [1, 5, 9, 13], tI [2, 6, 10, 14], tI [3, 7, 11, 15]] := rfl
    rw [e4]
    walk_at "r"
    refine for_range (n := 3) (fun i σ M' => M' = M1 ∧ ∃ o4 o5 : Option D, σ = [some (.frz (cells.map .int)), some (.ref dl), some (.tup [tI [0, 4, 8, 12], tI [1, 5, 9, 13], tI [2, 6, 10, 14], tI [3, 7, 11, 15]]), some (.tup [tI [0, 5, 10, 15], tI [1, 6, 11, 12], tI [2, 7, 8, 13], tI [3, 4, 9, 14]]), o4, o5, none, none]) rfl ⟨rfl, _, _, rfl⟩ ?_ ?_
    · rintro i hi σ M' ⟨rfl, o4, o5, rfl⟩
      walk_at "r"
      refine lc_rrel (n := 16) (fun _ d => ∃ w : Nat, d = .int w ∧ w < 2 ^ 32) rfl (fun _ _ => trivial) (sz_le (by decide)) ?_ ?_
      · intro j hj M' P N hM hP
        walk_at "r"
        refine c_law_word' z (by walk_at "deal") fun w hw => ?_
        exact hP _ ⟨w, rfl, hw⟩
      · intro ys hyl hy
        obtain ⟨ks, rfl, hks⟩ := all_nat hy
        have e5 : D.lst ((ks.map fun (k : Nat) => (k : Int)).map .int) = lI (wI ks) := rfl
        rw [e5]
        walk_at "r"
        refine c_law_quarters_right z hdl ⟨by simpa using hyl, hks⟩ ?_
        walk_at "r"
        exact ⟨rfl, _, _, rfl⟩
    · rintro σ M' ⟨rfl, o4, o5, rfl⟩
      walk_at "r"
      refine c_law_kinds_right' z hdl ?_
      walk_at "r"
      exact ⟨_, .refl _, q _⟩))
end K15
/-! the end (printed by gen4.py) -/
namespace K15
open PySem PySem.Spec L2 HA
theorem all_mz {P : Program} {w : World} (z : Wd) {h : Heap} {mg : Str → Option Value} {fa : Addr} (XK : z.K.In h) (Gn : h.Ns mainGlobals mg) (hfa : mg "law" = some (.ref fa))
    {t_COLUMNS : Addr} {dT_COLUMNS : Option Addr} {nT_COLUMNS : Nat} {sT_COLUMNS : Array (Option Value)} 
    {t_COLUMNS_0 : Addr} {dT_COLUMNS_0 : Option Addr} {nT_COLUMNS_0 : Nat} {sT_COLUMNS_0 : Array (Option Value)} {u_COLUMNS_0_0 : Tok} {u_COLUMNS_0_1 : Tok} {u_COLUMNS_0_2 : Tok} {u_COLUMNS_0_3 : Tok}
    {t_COLUMNS_1 : Addr} {dT_COLUMNS_1 : Option Addr} {nT_COLUMNS_1 : Nat} {sT_COLUMNS_1 : Array (Option Value)} {u_COLUMNS_1_0 : Tok} {u_COLUMNS_1_1 : Tok} {u_COLUMNS_1_2 : Tok} {u_COLUMNS_1_3 : Tok}
    {t_COLUMNS_2 : Addr} {dT_COLUMNS_2 : Option Addr} {nT_COLUMNS_2 : Nat} {sT_COLUMNS_2 : Array (Option Value)} {u_COLUMNS_2_0 : Tok} {u_COLUMNS_2_1 : Tok} {u_COLUMNS_2_2 : Tok} {u_COLUMNS_2_3 : Tok}
    {t_COLUMNS_3 : Addr} {dT_COLUMNS_3 : Option Addr} {nT_COLUMNS_3 : Nat} {sT_COLUMNS_3 : Array (Option Value)} {u_COLUMNS_3_0 : Tok} {u_COLUMNS_3_1 : Tok} {u_COLUMNS_3_2 : Tok} {u_COLUMNS_3_3 : Tok}
    {t_DIAGONALS : Addr} {dT_DIAGONALS : Option Addr} {nT_DIAGONALS : Nat} {sT_DIAGONALS : Array (Option Value)} 
    {t_DIAGONALS_0 : Addr} {dT_DIAGONALS_0 : Option Addr} {nT_DIAGONALS_0 : Nat} {sT_DIAGONALS_0 : Array (Option Value)} {u_DIAGONALS_0_0 : Tok} {u_DIAGONALS_0_1 : Tok} {u_DIAGONALS_0_2 : Tok} {u_DIAGONALS_0_3 : Tok}
    {t_DIAGONALS_1 : Addr} {dT_DIAGONALS_1 : Option Addr} {nT_DIAGONALS_1 : Nat} {sT_DIAGONALS_1 : Array (Option Value)} {u_DIAGONALS_1_0 : Tok} {u_DIAGONALS_1_1 : Tok} {u_DIAGONALS_1_2 : Tok} {u_DIAGONALS_1_3 : Tok}
    {t_DIAGONALS_2 : Addr} {dT_DIAGONALS_2 : Option Addr} {nT_DIAGONALS_2 : Nat} {sT_DIAGONALS_2 : Array (Option Value)} {u_DIAGONALS_2_0 : Tok} {u_DIAGONALS_2_1 : Tok} {u_DIAGONALS_2_2 : Tok} {u_DIAGONALS_2_3 : Tok}
    {t_DIAGONALS_3 : Addr} {dT_DIAGONALS_3 : Option Addr} {nT_DIAGONALS_3 : Nat} {sT_DIAGONALS_3 : Array (Option Value)} {u_DIAGONALS_3_0 : Tok} {u_DIAGONALS_3_1 : Tok} {u_DIAGONALS_3_2 : Tok} {u_DIAGONALS_3_3 : Tok}
    {uI_MASK : Tok}
    {f0 : Addr} {od0 an0 : Option Addr} {sl0 : Array (Option Value)} {oc0 kV0 dc0 pm0 cd0 ct0 : Value}
    {f1 : Addr} {od1 an1 : Option Addr} {sl1 : Array (Option Value)} {oc1 kV1 dc1 pm1 cd1 ct1 : Value}
    {f2 : Addr} {od2 an2 : Option Addr} {sl2 : Array (Option Value)} {oc2 kV2 dc2 pm2 cd2 ct2 : Value}
    {f3 : Addr} {od3 an3 : Option Addr} {sl3 : Array (Option Value)} {oc3 kV3 dc3 pm3 cd3 ct3 : Value}
    {f4 : Addr} {od4 an4 : Option Addr} {sl4 : Array (Option Value)} {oc4 kV4 dc4 pm4 cd4 ct4 : Value}
    {f5 : Addr} {od5 an5 : Option Addr} {sl5 : Array (Option Value)} {oc5 kV5 dc5 pm5 cd5 ct5 : Value}
    {f6 : Addr} {od6 an6 : Option Addr} {sl6 : Array (Option Value)} {oc6 kV6 dc6 pm6 cd6 ct6 : Value}
    {f7 : Addr} {od7 an7 : Option Addr} {sl7 : Array (Option Value)} {oc7 kV7 dc7 pm7 cd7 ct7 : Value}
    {f8 : Addr} {od8 an8 : Option Addr} {sl8 : Array (Option Value)} {oc8 kV8 dc8 pm8 cd8 ct8 : Value}
    {f9 : Addr} {od9 an9 : Option Addr} {sl9 : Array (Option Value)} {oc9 kV9 dc9 pm9 cd9 ct9 : Value}
    {f10 : Addr} {od10 an10 : Option Addr} {sl10 : Array (Option Value)} {oc10 kV10 dc10 pm10 cd10 ct10 : Value}
    {f11 : Addr} {od11 an11 : Option Addr} {sl11 : Array (Option Value)} {oc11 kV11 dc11 pm11 cd11 ct11 : Value}
    {f12 : Addr} {od12 an12 : Option Addr} {sl12 : Array (Option Value)} {oc12 kV12 dc12 pm12 cd12 ct12 : Value}
    {f13 : Addr} {od13 an13 : Option Addr} {sl13 : Array (Option Value)} {oc13 kV13 dc13 pm13 cd13 ct13 : Value}
    {f14 : Addr} {od14 an14 : Option Addr} {sl14 : Array (Option Value)} {oc14 kV14 dc14 pm14 cd14 ct14 : Value}
    {f15 : Addr} {od15 an15 : Option Addr} {sl15 : Array (Option Value)} {oc15 kV15 dc15 pm15 cd15 ct15 : Value}
    {f16 : Addr} {od16 an16 : Option Addr} {sl16 : Array (Option Value)} {oc16 kV16 dc16 pm16 cd16 ct16 : Value}
    {f17 : Addr} {od17 an17 : Option Addr} {sl17 : Array (Option Value)} {oc17 kV17 dc17 pm17 cd17 ct17 : Value}
    {f18 : Addr} {od18 an18 : Option Addr} {sl18 : Array (Option Value)} {oc18 kV18 dc18 pm18 cd18 ct18 : Value}
    {f19 : Addr} {od19 an19 : Option Addr} {sl19 : Array (Option Value)} {oc19 kV19 dc19 pm19 cd19 ct19 : Value}
    {f20 : Addr} {od20 an20 : Option Addr} {sl20 : Array (Option Value)} {oc20 kV20 dc20 pm20 cd20 ct20 : Value}
    {f21 : Addr} {od21 an21 : Option Addr} {sl21 : Array (Option Value)} {oc21 kV21 dc21 pm21 cd21 ct21 : Value}
    (aT_COLUMNS : PySem.W.nsIn z.K mainGlobals "COLUMNS" = some (some (.ref t_COLUMNS)))
    (lT_COLUMNS : z.K.lookup t_COLUMNS = some ⟨.type "tuple", dT_COLUMNS, .seq #[.ref t_COLUMNS_0, .ref t_COLUMNS_1, .ref t_COLUMNS_2, .ref t_COLUMNS_3] nT_COLUMNS, sT_COLUMNS⟩)
    (lT_COLUMNS_0 : z.K.lookup t_COLUMNS_0 = some ⟨.type "tuple", dT_COLUMNS_0, .seq #[.int 0 u_COLUMNS_0_0, .int 4 u_COLUMNS_0_1, .int 8 u_COLUMNS_0_2, .int 12 u_COLUMNS_0_3] nT_COLUMNS_0, sT_COLUMNS_0⟩)
    (lT_COLUMNS_1 : z.K.lookup t_COLUMNS_1 = some ⟨.type "tuple", dT_COLUMNS_1, .seq #[.int 1 u_COLUMNS_1_0, .int 5 u_COLUMNS_1_1, .int 9 u_COLUMNS_1_2, .int 13 u_COLUMNS_1_3] nT_COLUMNS_1, sT_COLUMNS_1⟩)
    (lT_COLUMNS_2 : z.K.lookup t_COLUMNS_2 = some ⟨.type "tuple", dT_COLUMNS_2, .seq #[.int 2 u_COLUMNS_2_0, .int 6 u_COLUMNS_2_1, .int 10 u_COLUMNS_2_2, .int 14 u_COLUMNS_2_3] nT_COLUMNS_2, sT_COLUMNS_2⟩)
    (lT_COLUMNS_3 : z.K.lookup t_COLUMNS_3 = some ⟨.type "tuple", dT_COLUMNS_3, .seq #[.int 3 u_COLUMNS_3_0, .int 7 u_COLUMNS_3_1, .int 11 u_COLUMNS_3_2, .int 15 u_COLUMNS_3_3] nT_COLUMNS_3, sT_COLUMNS_3⟩)
    (aT_DIAGONALS : PySem.W.nsIn z.K mainGlobals "DIAGONALS" = some (some (.ref t_DIAGONALS)))
    (lT_DIAGONALS : z.K.lookup t_DIAGONALS = some ⟨.type "tuple", dT_DIAGONALS, .seq #[.ref t_DIAGONALS_0, .ref t_DIAGONALS_1, .ref t_DIAGONALS_2, .ref t_DIAGONALS_3] nT_DIAGONALS, sT_DIAGONALS⟩)
    (lT_DIAGONALS_0 : z.K.lookup t_DIAGONALS_0 = some ⟨.type "tuple", dT_DIAGONALS_0, .seq #[.int 0 u_DIAGONALS_0_0, .int 5 u_DIAGONALS_0_1, .int 10 u_DIAGONALS_0_2, .int 15 u_DIAGONALS_0_3] nT_DIAGONALS_0, sT_DIAGONALS_0⟩)
    (lT_DIAGONALS_1 : z.K.lookup t_DIAGONALS_1 = some ⟨.type "tuple", dT_DIAGONALS_1, .seq #[.int 1 u_DIAGONALS_1_0, .int 6 u_DIAGONALS_1_1, .int 11 u_DIAGONALS_1_2, .int 12 u_DIAGONALS_1_3] nT_DIAGONALS_1, sT_DIAGONALS_1⟩)
    (lT_DIAGONALS_2 : z.K.lookup t_DIAGONALS_2 = some ⟨.type "tuple", dT_DIAGONALS_2, .seq #[.int 2 u_DIAGONALS_2_0, .int 7 u_DIAGONALS_2_1, .int 8 u_DIAGONALS_2_2, .int 13 u_DIAGONALS_2_3] nT_DIAGONALS_2, sT_DIAGONALS_2⟩)
    (lT_DIAGONALS_3 : z.K.lookup t_DIAGONALS_3 = some ⟨.type "tuple", dT_DIAGONALS_3, .seq #[.int 3 u_DIAGONALS_3_0, .int 4 u_DIAGONALS_3_1, .int 9 u_DIAGONALS_3_2, .int 14 u_DIAGONALS_3_3] nT_DIAGONALS_3, sT_DIAGONALS_3⟩)
    (aI_MASK : PySem.W.nsIn z.K mainGlobals "MASK" = some (some (.int 4294967295 uI_MASK)))
    (a0 : PySem.W.nsIn z.K mainGlobals "_law_source" = some (some (.ref f0)))
    (l0 : z.K.lookup f0 = some ⟨oc0, od0, .func (PySem.W.fnOf "_law_source" "_law_source" (defArgs st_law_source) (defBody st_law_source) (defScope st_law_source) .none kV0 dc0 pm0 an0 cd0 ct0), sl0⟩)
    (c0 : PySem.W.codeIn z.K cd0 "_law_source" = true)
    (k0 : PySem.W.keepIn z.K (.ref f0) = true)
    (a1 : PySem.W.nsIn z.K mainGlobals "_law_any" = some (some (.ref f1)))
    (l1 : z.K.lookup f1 = some ⟨oc1, od1, .func (PySem.W.fnOf "_law_any" "_law_any" (defArgs st_law_any) (defBody st_law_any) (defScope st_law_any) .none kV1 dc1 pm1 an1 cd1 ct1), sl1⟩)
    (c1 : PySem.W.codeIn z.K cd1 "_law_any" = true)
    (k1 : PySem.W.keepIn z.K (.ref f1) = true)
    (a2 : PySem.W.nsIn z.K mainGlobals "_law_word" = some (some (.ref f2)))
    (l2 : z.K.lookup f2 = some ⟨oc2, od2, .func (PySem.W.fnOf "_law_word" "_law_word" (defArgs st_law_word) (defBody st_law_word) (defScope st_law_word) .none kV2 dc2 pm2 an2 cd2 ct2), sl2⟩)
    (c2 : PySem.W.codeIn z.K cd2 "_law_word" = true)
    (k2 : PySem.W.keepIn z.K (.ref f2) = true)
    (a3 : PySem.W.nsIn z.K mainGlobals "_law_places" = some (some (.ref f3)))
    (l3 : z.K.lookup f3 = some ⟨oc3, od3, .func (PySem.W.fnOf "_law_places" "_law_places" (defArgs st_law_places) (defBody st_law_places) (defScope st_law_places) .none kV3 dc3 pm3 an3 cd3 ct3), sl3⟩)
    (c3 : PySem.W.codeIn z.K cd3 "_law_places" = true)
    (k3 : PySem.W.keepIn z.K (.ref f3) = true)
    (a4 : PySem.W.nsIn z.K mainGlobals "_law_quarter" = some (some (.ref f4)))
    (l4 : z.K.lookup f4 = some ⟨oc4, od4, .func (PySem.W.fnOf "_law_quarter" "_law_quarter" (defArgs st_law_quarter) (defBody st_law_quarter) (defScope st_law_quarter) .none kV4 dc4 pm4 an4 cd4 ct4), sl4⟩)
    (c4 : PySem.W.codeIn z.K cd4 "_law_quarter" = true)
    (k4 : PySem.W.keepIn z.K (.ref f4) = true)
    (a5 : PySem.W.nsIn z.K mainGlobals "quarter" = some (some (.ref f5)))
    (l5 : z.K.lookup f5 = some ⟨oc5, od5, .func (PySem.W.fnOf "quarter" "quarter" (defArgs st_quarter) (defBody st_quarter) (defScope st_quarter) .none kV5 dc5 pm5 an5 cd5 ct5), sl5⟩)
    (c5 : PySem.W.codeIn z.K cd5 "quarter" = true)
    (k5 : PySem.W.keepIn z.K (.ref f5) = true)
    (a6 : PySem.W.nsIn z.K mainGlobals "unquarter" = some (some (.ref f6)))
    (l6 : z.K.lookup f6 = some ⟨oc6, od6, .func (PySem.W.fnOf "unquarter" "unquarter" (defArgs st_unquarter) (defBody st_unquarter) (defScope st_unquarter) .none kV6 dc6 pm6 an6 cd6 ct6), sl6⟩)
    (c6 : PySem.W.codeIn z.K cd6 "unquarter" = true)
    (k6 : PySem.W.keepIn z.K (.ref f6) = true)
    (a7 : PySem.W.nsIn z.K mainGlobals "_turn" = some (some (.ref f7)))
    (l7 : z.K.lookup f7 = some ⟨oc7, od7, .func (PySem.W.fnOf "_turn" "_turn" (defArgs st_turn) (defBody st_turn) (defScope st_turn) .none kV7 dc7 pm7 an7 cd7 ct7), sl7⟩)
    (c7 : PySem.W.codeIn z.K cd7 "_turn" = true)
    (k7 : PySem.W.keepIn z.K (.ref f7) = true)
    (a8 : PySem.W.nsIn z.K mainGlobals "quarter_at" = some (some (.ref f8)))
    (l8 : z.K.lookup f8 = some ⟨oc8, od8, .func (PySem.W.fnOf "quarter_at" "quarter_at" (defArgs st_quarter_at) (defBody st_quarter_at) (defScope st_quarter_at) .none kV8 dc8 pm8 an8 cd8 ct8), sl8⟩)
    (c8 : PySem.W.codeIn z.K cd8 "quarter_at" = true)
    (k8 : PySem.W.keepIn z.K (.ref f8) = true)
    (a9 : PySem.W.nsIn z.K mainGlobals "_law_is_row" = some (some (.ref f9)))
    (l9 : z.K.lookup f9 = some ⟨oc9, od9, .func (PySem.W.fnOf "_law_is_row" "_law_is_row" (defArgs st_law_is_row) (defBody st_law_is_row) (defScope st_law_is_row) .none kV9 dc9 pm9 an9 cd9 ct9), sl9⟩)
    (c9 : PySem.W.codeIn z.K cd9 "_law_is_row" = true)
    (k9 : PySem.W.keepIn z.K (.ref f9) = true)
    (a10 : PySem.W.nsIn z.K mainGlobals "_law_quarters_right" = some (some (.ref f10)))
    (l10 : z.K.lookup f10 = some ⟨oc10, od10, .func (PySem.W.fnOf "_law_quarters_right" "_law_quarters_right" (defArgs st_law_quarters_right) (defBody st_law_quarters_right) (defScope st_law_quarters_right) .none kV10 dc10 pm10 an10 cd10 ct10), sl10⟩)
    (c10 : PySem.W.codeIn z.K cd10 "_law_quarters_right" = true)
    (k10 : PySem.W.keepIn z.K (.ref f10) = true)
    (a11 : PySem.W.nsIn z.K mainGlobals "_law_of" = some (some (.ref f11)))
    (l11 : z.K.lookup f11 = some ⟨oc11, od11, .func (PySem.W.fnOf "_law_of" "_law_of" (defArgs st_law_of) (defBody st_law_of) (defScope st_law_of) .none kV11 dc11 pm11 an11 cd11 ct11), sl11⟩)
    (c11 : PySem.W.codeIn z.K cd11 "_law_of" = true)
    (k11 : PySem.W.keepIn z.K (.ref f11) = true)
    (a12 : PySem.W.nsIn z.K mainGlobals "_law_bent" = some (some (.ref f12)))
    (l12 : z.K.lookup f12 = some ⟨oc12, od12, .func (PySem.W.fnOf "_law_bent" "_law_bent" (defArgs st_law_bent) (defBody st_law_bent) (defScope st_law_bent) .none kV12 dc12 pm12 an12 cd12 ct12), sl12⟩)
    (c12 : PySem.W.codeIn z.K cd12 "_law_bent" = true)
    (k12 : PySem.W.keepIn z.K (.ref f12) = true)
    (a13 : PySem.W.nsIn z.K mainGlobals "is_integer" = some (some (.ref f13)))
    (l13 : z.K.lookup f13 = some ⟨oc13, od13, .func (PySem.W.fnOf "is_integer" "is_integer" (defArgs st_is_integer) (defBody st_is_integer) (defScope st_is_integer) .none kV13 dc13 pm13 an13 cd13 ct13), sl13⟩)
    (c13 : PySem.W.codeIn z.K cd13 "is_integer" = true)
    (k13 : PySem.W.keepIn z.K (.ref f13) = true)
    (a14 : PySem.W.nsIn z.K mainGlobals "is_below" = some (some (.ref f14)))
    (l14 : z.K.lookup f14 = some ⟨oc14, od14, .func (PySem.W.fnOf "is_below" "is_below" (defArgs st_is_below) (defBody st_is_below) (defScope st_is_below) .none kV14 dc14 pm14 an14 cd14 ct14), sl14⟩)
    (c14 : PySem.W.codeIn z.K cd14 "is_below" = true)
    (k14 : PySem.W.keepIn z.K (.ref f14) = true)
    (a15 : PySem.W.nsIn z.K mainGlobals "is_state" = some (some (.ref f15)))
    (l15 : z.K.lookup f15 = some ⟨oc15, od15, .func (PySem.W.fnOf "is_state" "is_state" (defArgs st_is_state) (defBody st_is_state) (defScope st_is_state) .none kV15 dc15 pm15 an15 cd15 ct15), sl15⟩)
    (c15 : PySem.W.codeIn z.K cd15 "is_state" = true)
    (k15 : PySem.W.keepIn z.K (.ref f15) = true)
    (a16 : PySem.W.nsIn z.K mainGlobals "wrong_place" = some (some (.ref f16)))
    (l16 : z.K.lookup f16 = some ⟨oc16, od16, .func (PySem.W.fnOf "wrong_place" "wrong_place" (defArgs st_wrong_place) (defBody st_wrong_place) (defScope st_wrong_place) .none kV16 dc16 pm16 an16 cd16 ct16), sl16⟩)
    (c16 : PySem.W.codeIn z.K cd16 "wrong_place" = true)
    (k16 : PySem.W.keepIn z.K (.ref f16) = true)
    (a17 : PySem.W.nsIn z.K mainGlobals "is_octets" = some (some (.ref f17)))
    (l17 : z.K.lookup f17 = some ⟨oc17, od17, .func (PySem.W.fnOf "is_octets" "is_octets" (defArgs st_is_octets) (defBody st_is_octets) (defScope st_is_octets) .none kV17 dc17 pm17 an17 cd17 ct17), sl17⟩)
    (c17 : PySem.W.codeIn z.K cd17 "is_octets" = true)
    (k17 : PySem.W.keepIn z.K (.ref f17) = true)
    (a18 : PySem.W.nsIn z.K mainGlobals "is_cipher_key" = some (some (.ref f18)))
    (l18 : z.K.lookup f18 = some ⟨oc18, od18, .func (PySem.W.fnOf "is_cipher_key" "is_cipher_key" (defArgs st_is_cipher_key) (defBody st_is_cipher_key) (defScope st_is_cipher_key) .none kV18 dc18 pm18 an18 cd18 ct18), sl18⟩)
    (c18 : PySem.W.codeIn z.K cd18 "is_cipher_key" = true)
    (k18 : PySem.W.keepIn z.K (.ref f18) = true)
    (a19 : PySem.W.nsIn z.K mainGlobals "is_nonce" = some (some (.ref f19)))
    (l19 : z.K.lookup f19 = some ⟨oc19, od19, .func (PySem.W.fnOf "is_nonce" "is_nonce" (defArgs st_is_nonce) (defBody st_is_nonce) (defScope st_is_nonce) .none kV19 dc19 pm19 an19 cd19 ct19), sl19⟩)
    (c19 : PySem.W.codeIn z.K cd19 "is_nonce" = true)
    (k19 : PySem.W.keepIn z.K (.ref f19) = true)
    (a20 : PySem.W.nsIn z.K mainGlobals "_law_kinds_right" = some (some (.ref f20)))
    (l20 : z.K.lookup f20 = some ⟨oc20, od20, .func (PySem.W.fnOf "_law_kinds_right" "_law_kinds_right" (defArgs st_law_kinds_right) (defBody st_law_kinds_right) (defScope st_law_kinds_right) .none kV20 dc20 pm20 an20 cd20 ct20), sl20⟩)
    (c20 : PySem.W.codeIn z.K cd20 "_law_kinds_right" = true)
    (k20 : PySem.W.keepIn z.K (.ref f20) = true)
    (a21 : PySem.W.nsIn z.K mainGlobals "law" = some (some (.ref f21)))
    (l21 : z.K.lookup f21 = some ⟨oc21, od21, .func (PySem.W.fnOf "law" "law" (defArgs st_law) (defBody st_law) (defScope st_law) .none kV21 dc21 pm21 an21 cd21 ct21), sl21⟩)
    (c21 : PySem.W.codeIn z.K cd21 "law" = true)
    (k21 : PySem.W.keepIn z.K (.ref f21) = true)
    (z_isinstance : PySem.W.nsIn z.K mainGlobals "isinstance" = some none)
    (z_int : PySem.W.nsIn z.K mainGlobals "int" = some none)
    (z_bool : PySem.W.nsIn z.K mainGlobals "bool" = some none)
    (z_enumerate : PySem.W.nsIn z.K mainGlobals "enumerate" = some none)
    (z_len : PySem.W.nsIn z.K mainGlobals "len" = some none)
    (z_tuple : PySem.W.nsIn z.K mainGlobals "tuple" = some none)
    (z_all : PySem.W.nsIn z.K mainGlobals "all" = some none)
    (z_list : PySem.W.nsIn z.K mainGlobals "list" = some none)
    (z_abs : PySem.W.nsIn z.K mainGlobals "abs" = some none)
    (z_range : PySem.W.nsIn z.K mainGlobals "range" = some none)
    (z_repr : PySem.W.nsIn z.K mainGlobals "repr" = some none) :
    ∃ fd : FuncData, (∀ (s : Shared) (v : Value), BindsTo s fd ⟨[v], []⟩ [("script", v)]) ∧ ∀ base : Heap, z.K.In base → base.Ns mainGlobals mg → FA P w z.K mg base 7 fa fd ["script"] spLaw := (by exact HA.Wq.get : @HA.Wq (∃ fd : FuncData, (∀ (s : Shared) (v : Value), BindsTo s fd ⟨[v], []⟩ [("script", v)]) ∧ ∀ base : Heap, z.K.In base → base.Ns mainGlobals mg → FA P w z.K mg base 7 fa fd ["script"] spLaw) (by
  have e := hfa.symm.trans (PySem.W.mg_of XK Gn a21)
  cases e
  have nb : Nb mg := ⟨PySem.W.mg_none_of XK Gn z_isinstance, PySem.W.mg_none_of XK Gn z_int, PySem.W.mg_none_of XK Gn z_bool, PySem.W.mg_none_of XK Gn z_enumerate, PySem.W.mg_none_of XK Gn z_len, PySem.W.mg_none_of XK Gn z_tuple, PySem.W.mg_none_of XK Gn z_all, PySem.W.mg_none_of XK Gn z_list, PySem.W.mg_none_of XK Gn z_abs, PySem.W.mg_none_of XK Gn z_range, PySem.W.mg_none_of XK Gn z_repr⟩
  have ok : Ok z := ⟨⟩
  have g_COLUMNS : GT z.K mg "COLUMNS" [(tI [0, 4, 8, 12]), (tI [1, 5, 9, 13]), (tI [2, 6, 10, 14]), (tI [3, 7, 11, 15])] := ⟨t_COLUMNS, PySem.W.mg_of XK Gn aT_COLUMNS, (rp_writ (vs := [.ref t_COLUMNS_0, .ref t_COLUMNS_1, .ref t_COLUMNS_2, .ref t_COLUMNS_3]) lT_COLUMNS (sz_le (by simp)) (vr_cons (vr_cons (vr_cons (vr_cons .nil)))) (.cons (rp_writ (vs := [.int 0, .int 4, .int 8, .int 12]) lT_COLUMNS_0 (sz_le (by simp)) (vi_cons (vi_cons (vi_cons (vi_cons .nil)))) (.cons (.int _) (.cons (.int _) (.cons (.int _) (.cons (.int _) .nil))))) (.cons (rp_writ (vs := [.int 1, .int 5, .int 9, .int 13]) lT_COLUMNS_1 (sz_le (by simp)) (vi_cons (vi_cons (vi_cons (vi_cons .nil)))) (.cons (.int _) (.cons (.int _) (.cons (.int _) (.cons (.int _) .nil))))) (.cons (rp_writ (vs := [.int 2, .int 6, .int 10, .int 14]) lT_COLUMNS_2 (sz_le (by simp)) (vi_cons (vi_cons (vi_cons (vi_cons .nil)))) (.cons (.int _) (.cons (.int _) (.cons (.int _) (.cons (.int _) .nil))))) (.cons (rp_writ (vs := [.int 3, .int 7, .int 11, .int 15]) lT_COLUMNS_3 (sz_le (by simp)) (vi_cons (vi_cons (vi_cons (vi_cons .nil)))) (.cons (.int _) (.cons (.int _) (.cons (.int _) (.cons (.int _) .nil))))) .nil)))))⟩
  have g_DIAGONALS : GT z.K mg "DIAGONALS" [(tI [0, 5, 10, 15]), (tI [1, 6, 11, 12]), (tI [2, 7, 8, 13]), (tI [3, 4, 9, 14])] := ⟨t_DIAGONALS, PySem.W.mg_of XK Gn aT_DIAGONALS, (rp_writ (vs := [.ref t_DIAGONALS_0, .ref t_DIAGONALS_1, .ref t_DIAGONALS_2, .ref t_DIAGONALS_3]) lT_DIAGONALS (sz_le (by simp)) (vr_cons (vr_cons (vr_cons (vr_cons .nil)))) (.cons (rp_writ (vs := [.int 0, .int 5, .int 10, .int 15]) lT_DIAGONALS_0 (sz_le (by simp)) (vi_cons (vi_cons (vi_cons (vi_cons .nil)))) (.cons (.int _) (.cons (.int _) (.cons (.int _) (.cons (.int _) .nil))))) (.cons (rp_writ (vs := [.int 1, .int 6, .int 11, .int 12]) lT_DIAGONALS_1 (sz_le (by simp)) (vi_cons (vi_cons (vi_cons (vi_cons .nil)))) (.cons (.int _) (.cons (.int _) (.cons (.int _) (.cons (.int _) .nil))))) (.cons (rp_writ (vs := [.int 2, .int 7, .int 8, .int 13]) lT_DIAGONALS_2 (sz_le (by simp)) (vi_cons (vi_cons (vi_cons (vi_cons .nil)))) (.cons (.int _) (.cons (.int _) (.cons (.int _) (.cons (.int _) .nil))))) (.cons (rp_writ (vs := [.int 3, .int 4, .int 9, .int 14]) lT_DIAGONALS_3 (sz_le (by simp)) (vi_cons (vi_cons (vi_cons (vi_cons .nil)))) (.cons (.int _) (.cons (.int _) (.cons (.int _) (.cons (.int _) .nil))))) .nil)))))⟩
  have g_MASK : ∃ t, mg "MASK" = some (.int 4294967295 t) := ⟨_, PySem.W.mg_of XK Gn aI_MASK⟩
  refine ⟨PySem.W.fnOf "law" "law" (defArgs st_law) (defBody st_law) (defScope st_law) .none kV21 dc21 pm21 an21 cd21 ct21, fun s v => .of_eq rfl, fun base _ _ => ?_⟩
  have F0 := fun_mk (st := st_law_source) l0 c0 k0
  have A0 : FA P w z.K mg base 1 f0 _ ps_law_source (sp_law_source z) := fa_src (fa_any F0 sc_law_source (len_law_source z) (d_law_source nb ) (v_law_source z ok))
  have C0 : Cal P w z.K mg base 1 "_law_source" st_law_source ps_law_source (sp_law_source z) := ⟨f0, _, F0, PySem.W.mg_of XK Gn a0, A0⟩
  have F1 := fun_mk (st := st_law_any) l1 c1 k1
  have A1 : FA P w z.K mg base 1 f1 _ ps_law_any (sp_law_any z) := fa_draw (fa_any F1 sc_law_any (len_law_any z) (d_law_any nb ) (v_law_any z ok))
  have C1 : Cal P w z.K mg base 1 "_law_any" st_law_any ps_law_any (sp_law_any z) := ⟨f1, _, F1, PySem.W.mg_of XK Gn a1, A1⟩
  have F2 := fun_mk (st := st_law_word) l2 c2 k2
  have A2 : FA P w z.K mg base 2 f2 _ Sh.ps_law_word (Sh.sp_law_word z) := fa_pure F2 sc_law_word (Sh.len_law_word z) (d_law_word nb C1) (Sh.v_law_word z)
  have C2 : Cal P w z.K mg base 2 "_law_word" st_law_word Sh.ps_law_word (Sh.sp_law_word z) := ⟨f2, _, F2, PySem.W.mg_of XK Gn a2, A2⟩
  have F3 := fun_mk (st := st_law_places) l3 c3 k3
  have A3 : FA P w z.K mg base 2 f3 _ ps_law_places (sp_law_places z) := fa_pure F3 sc_law_places (len_law_places z) (d_law_places nb C1) (v_law_places z ok)
  have C3 : Cal P w z.K mg base 2 "_law_places" st_law_places ps_law_places (sp_law_places z) := ⟨f3, _, F3, PySem.W.mg_of XK Gn a3, A3⟩
  have F4 := fun_mk (st := st_law_quarter) l4 c4 k4
  have A4 : FA P w z.K mg base 1 f4 _ Sh.ps_law_quarter (Sh.sp_law_quarter z) := fa_any F4 sc_law_quarter (Sh.len_law_quarter z) (d_law_quarter nb ) (Sh.v_law_quarter z)
  have C4 : Cal P w z.K mg base 1 "_law_quarter" st_law_quarter Sh.ps_law_quarter (Sh.sp_law_quarter z) := ⟨f4, _, F4, PySem.W.mg_of XK Gn a4, A4⟩
  have F5 := fun_mk (st := st_quarter) l5 c5 k5
  have A5 : FA P w z.K mg base 1 f5 _ Sh.ps_quarter (Sh.sp_quarter z) := fa_pure F5 sc_quarter (Sh.len_quarter z) (d_quarter nb g_MASK) (Sh.v_quarter z)
  have C5 : Cal P w z.K mg base 1 "quarter" st_quarter Sh.ps_quarter (Sh.sp_quarter z) := ⟨f5, _, F5, PySem.W.mg_of XK Gn a5, A5⟩
  have F6 := fun_mk (st := st_unquarter) l6 c6 k6
  have A6 : FA P w z.K mg base 1 f6 _ Sh.ps_unquarter (Sh.sp_unquarter z) := fa_pure F6 sc_unquarter (Sh.len_unquarter z) (d_unquarter nb g_MASK) (Sh.v_unquarter z)
  have C6 : Cal P w z.K mg base 1 "unquarter" st_unquarter Sh.ps_unquarter (Sh.sp_unquarter z) := ⟨f6, _, F6, PySem.W.mg_of XK Gn a6, A6⟩
  have F7 := fun_mk (st := st_turn) l7 c7 k7
  have A7 : FA P w z.K mg base 2 f7 _ Sh.ps_turn (Sh.sp_turn z) := fa_any F7 sc_turn (Sh.len_turn z) (d_turn nb C5) (Sh.v_turn z)
  have C7 : Cal P w z.K mg base 2 "_turn" st_turn Sh.ps_turn (Sh.sp_turn z) := ⟨f7, _, F7, PySem.W.mg_of XK Gn a7, A7⟩
  have F8 := fun_mk (st := st_quarter_at) l8 c8 k8
  have A8 : FA P w z.K mg base 3 f8 _ Sh.ps_quarter_at (Sh.sp_quarter_at z) := fa_pure F8 sc_quarter_at (Sh.len_quarter_at z) (d_quarter_at nb C7) (Sh.v_quarter_at z)
  have C8 : Cal P w z.K mg base 3 "quarter_at" st_quarter_at Sh.ps_quarter_at (Sh.sp_quarter_at z) := ⟨f8, _, F8, PySem.W.mg_of XK Gn a8, A8⟩
  have F9 := fun_mk (st := st_law_is_row) l9 c9 k9
  have A9 : FA P w z.K mg base 1 f9 _ ps_law_is_row (sp_law_is_row z) := fa_pure F9 sc_law_is_row (len_law_is_row z) (d_law_is_row nb ) (v_law_is_row z ok)
  have C9 : Cal P w z.K mg base 1 "_law_is_row" st_law_is_row ps_law_is_row (sp_law_is_row z) := ⟨f9, _, F9, PySem.W.mg_of XK Gn a9, A9⟩
  have F10 := fun_mk (st := st_law_quarters_right) l10 c10 k10
  have A10 : FA P w z.K mg base 4 f10 _ ps_law_quarters_right (sp_law_quarters_right z) := fa_pure F10 sc_law_quarters_right (len_law_quarters_right z) (d_law_quarters_right nb C3 C4 C5 C6 C8 C9) (v_law_quarters_right z ok)
  have C10 : Cal P w z.K mg base 4 "_law_quarters_right" st_law_quarters_right ps_law_quarters_right (sp_law_quarters_right z) := ⟨f10, _, F10, PySem.W.mg_of XK Gn a10, A10⟩
  have F11 := fun_mk (st := st_law_of) l11 c11 k11
  have A11 : FA P w z.K mg base 2 f11 _ ps_law_of (sp_law_of z) := fa_any F11 sc_law_of (len_law_of z) (d_law_of nb C1) (v_law_of z ok)
  have C11 : Cal P w z.K mg base 2 "_law_of" st_law_of ps_law_of (sp_law_of z) := ⟨f11, _, F11, PySem.W.mg_of XK Gn a11, A11⟩
  have F12 := fun_mk (st := st_law_bent) l12 c12 k12
  have A12 : FA P w z.K mg base 3 f12 _ ps_law_bent (sp_law_bent z) := fa_pure F12 sc_law_bent (len_law_bent z) (d_law_bent nb C11 C1) (v_law_bent z ok)
  have C12 : Cal P w z.K mg base 3 "_law_bent" st_law_bent ps_law_bent (sp_law_bent z) := ⟨f12, _, F12, PySem.W.mg_of XK Gn a12, A12⟩
  have F13 := fun_mk (st := st_is_integer) l13 c13 k13
  have A13 : FA P w z.K mg base 1 f13 _ Sh.ps_is_integer (Sh.sp_is_integer z) := fa_pure F13 sc_is_integer (Sh.len_is_integer z) (d_is_integer nb ) (Sh.v_is_integer z)
  have C13 : Cal P w z.K mg base 1 "is_integer" st_is_integer Sh.ps_is_integer (Sh.sp_is_integer z) := ⟨f13, _, F13, PySem.W.mg_of XK Gn a13, A13⟩
  have F14 := fun_mk (st := st_is_below) l14 c14 k14
  have A14 : FA P w z.K mg base 2 f14 _ Sh.ps_is_below (Sh.sp_is_below z) := fa_pure F14 sc_is_below (Sh.len_is_below z) (d_is_below nb C13) (Sh.v_is_below z)
  have C14 : Cal P w z.K mg base 2 "is_below" st_is_below Sh.ps_is_below (Sh.sp_is_below z) := ⟨f14, _, F14, PySem.W.mg_of XK Gn a14, A14⟩
  have F15 := fun_mk (st := st_is_state) l15 c15 k15
  have A15 : FA P w z.K mg base 3 f15 _ ps_is_state (sp_is_state z) := fa_pure F15 sc_is_state (len_is_state z) (d_is_state nb C14 g_MASK) (v_is_state z ok)
  have C15 : Cal P w z.K mg base 3 "is_state" st_is_state ps_is_state (sp_is_state z) := ⟨f15, _, F15, PySem.W.mg_of XK Gn a15, A15⟩
  have F16 := fun_mk (st := st_wrong_place) l16 c16 k16
  have A16 : FA P w z.K mg base 3 f16 _ Sh.ps_wrong_place (Sh.sp_wrong_place z) := fa_pure F16 sc_wrong_place (Sh.len_wrong_place z) (d_wrong_place nb C14) (Sh.v_wrong_place z)
  have C16 : Cal P w z.K mg base 3 "wrong_place" st_wrong_place Sh.ps_wrong_place (Sh.sp_wrong_place z) := ⟨f16, _, F16, PySem.W.mg_of XK Gn a16, A16⟩
  have F17 := fun_mk (st := st_is_octets) l17 c17 k17
  have A17 : FA P w z.K mg base 4 f17 _ Sh.ps_is_octets (Sh.sp_is_octets z) := fa_pure F17 sc_is_octets (Sh.len_is_octets z) (d_is_octets nb C16) (Sh.v_is_octets z)
  have C17 : Cal P w z.K mg base 4 "is_octets" st_is_octets Sh.ps_is_octets (Sh.sp_is_octets z) := ⟨f17, _, F17, PySem.W.mg_of XK Gn a17, A17⟩
  have F18 := fun_mk (st := st_is_cipher_key) l18 c18 k18
  have A18 : FA P w z.K mg base 5 f18 _ ps_is_cipher_key (sp_is_cipher_key z) := fa_pure F18 sc_is_cipher_key (len_is_cipher_key z) (d_is_cipher_key nb C17) (v_is_cipher_key z ok)
  have C18 : Cal P w z.K mg base 5 "is_cipher_key" st_is_cipher_key ps_is_cipher_key (sp_is_cipher_key z) := ⟨f18, _, F18, PySem.W.mg_of XK Gn a18, A18⟩
  have F19 := fun_mk (st := st_is_nonce) l19 c19 k19
  have A19 : FA P w z.K mg base 5 f19 _ ps_is_nonce (sp_is_nonce z) := fa_pure F19 sc_is_nonce (len_is_nonce z) (d_is_nonce nb C17) (v_is_nonce z ok)
  have C19 : Cal P w z.K mg base 5 "is_nonce" st_is_nonce ps_is_nonce (sp_is_nonce z) := ⟨f19, _, F19, PySem.W.mg_of XK Gn a19, A19⟩
  have F20 := fun_mk (st := st_law_kinds_right) l20 c20 k20
  have A20 : FA P w z.K mg base 6 f20 _ ps_law_kinds_right (sp_law_kinds_right z) := fa_pure F20 sc_law_kinds_right (len_law_kinds_right z) (d_law_kinds_right nb C12 C15 C9 C18 C19) (v_law_kinds_right z ok)
  have C20 : Cal P w z.K mg base 6 "_law_kinds_right" st_law_kinds_right ps_law_kinds_right (sp_law_kinds_right z) := ⟨f20, _, F20, PySem.W.mg_of XK Gn a20, A20⟩
  have F21 := fun_mk (st := st_law) l21 c21 k21
  have A21 : FA P w z.K mg base 7 fa _ ps_law (sp_law z) := fa_any F21 sc_law (len_law z) (d_law nb C0 C2 C10 C20 g_COLUMNS g_DIAGONALS) (v_law z ok)
  exact A21))
theorem all_mk {P : Program} {w : World} {K : PySem.W.Frag} {h : Heap} {mg : Str → Option Value} {fa : Addr} (XK : K.In h) (Gn : h.Ns mainGlobals mg) (hfa : mg "law" = some (.ref fa))
    {t_COLUMNS : Addr} {dT_COLUMNS : Option Addr} {nT_COLUMNS : Nat} {sT_COLUMNS : Array (Option Value)} 
    {t_COLUMNS_0 : Addr} {dT_COLUMNS_0 : Option Addr} {nT_COLUMNS_0 : Nat} {sT_COLUMNS_0 : Array (Option Value)} {u_COLUMNS_0_0 : Tok} {u_COLUMNS_0_1 : Tok} {u_COLUMNS_0_2 : Tok} {u_COLUMNS_0_3 : Tok}
    {t_COLUMNS_1 : Addr} {dT_COLUMNS_1 : Option Addr} {nT_COLUMNS_1 : Nat} {sT_COLUMNS_1 : Array (Option Value)} {u_COLUMNS_1_0 : Tok} {u_COLUMNS_1_1 : Tok} {u_COLUMNS_1_2 : Tok} {u_COLUMNS_1_3 : Tok}
    {t_COLUMNS_2 : Addr} {dT_COLUMNS_2 : Option Addr} {nT_COLUMNS_2 : Nat} {sT_COLUMNS_2 : Array (Option Value)} {u_COLUMNS_2_0 : Tok} {u_COLUMNS_2_1 : Tok} {u_COLUMNS_2_2 : Tok} {u_COLUMNS_2_3 : Tok}
    {t_COLUMNS_3 : Addr} {dT_COLUMNS_3 : Option Addr} {nT_COLUMNS_3 : Nat} {sT_COLUMNS_3 : Array (Option Value)} {u_COLUMNS_3_0 : Tok} {u_COLUMNS_3_1 : Tok} {u_COLUMNS_3_2 : Tok} {u_COLUMNS_3_3 : Tok}
    {t_DIAGONALS : Addr} {dT_DIAGONALS : Option Addr} {nT_DIAGONALS : Nat} {sT_DIAGONALS : Array (Option Value)} 
    {t_DIAGONALS_0 : Addr} {dT_DIAGONALS_0 : Option Addr} {nT_DIAGONALS_0 : Nat} {sT_DIAGONALS_0 : Array (Option Value)} {u_DIAGONALS_0_0 : Tok} {u_DIAGONALS_0_1 : Tok} {u_DIAGONALS_0_2 : Tok} {u_DIAGONALS_0_3 : Tok}
    {t_DIAGONALS_1 : Addr} {dT_DIAGONALS_1 : Option Addr} {nT_DIAGONALS_1 : Nat} {sT_DIAGONALS_1 : Array (Option Value)} {u_DIAGONALS_1_0 : Tok} {u_DIAGONALS_1_1 : Tok} {u_DIAGONALS_1_2 : Tok} {u_DIAGONALS_1_3 : Tok}
    {t_DIAGONALS_2 : Addr} {dT_DIAGONALS_2 : Option Addr} {nT_DIAGONALS_2 : Nat} {sT_DIAGONALS_2 : Array (Option Value)} {u_DIAGONALS_2_0 : Tok} {u_DIAGONALS_2_1 : Tok} {u_DIAGONALS_2_2 : Tok} {u_DIAGONALS_2_3 : Tok}
    {t_DIAGONALS_3 : Addr} {dT_DIAGONALS_3 : Option Addr} {nT_DIAGONALS_3 : Nat} {sT_DIAGONALS_3 : Array (Option Value)} {u_DIAGONALS_3_0 : Tok} {u_DIAGONALS_3_1 : Tok} {u_DIAGONALS_3_2 : Tok} {u_DIAGONALS_3_3 : Tok}
    {uI_MASK : Tok}
    {f0 : Addr} {od0 an0 : Option Addr} {sl0 : Array (Option Value)} {oc0 kV0 dc0 pm0 cd0 ct0 : Value}
    {f1 : Addr} {od1 an1 : Option Addr} {sl1 : Array (Option Value)} {oc1 kV1 dc1 pm1 cd1 ct1 : Value}
    {f2 : Addr} {od2 an2 : Option Addr} {sl2 : Array (Option Value)} {oc2 kV2 dc2 pm2 cd2 ct2 : Value}
    {f3 : Addr} {od3 an3 : Option Addr} {sl3 : Array (Option Value)} {oc3 kV3 dc3 pm3 cd3 ct3 : Value}
    {f4 : Addr} {od4 an4 : Option Addr} {sl4 : Array (Option Value)} {oc4 kV4 dc4 pm4 cd4 ct4 : Value}
    {f5 : Addr} {od5 an5 : Option Addr} {sl5 : Array (Option Value)} {oc5 kV5 dc5 pm5 cd5 ct5 : Value}
    {f6 : Addr} {od6 an6 : Option Addr} {sl6 : Array (Option Value)} {oc6 kV6 dc6 pm6 cd6 ct6 : Value}
    {f7 : Addr} {od7 an7 : Option Addr} {sl7 : Array (Option Value)} {oc7 kV7 dc7 pm7 cd7 ct7 : Value}
    {f8 : Addr} {od8 an8 : Option Addr} {sl8 : Array (Option Value)} {oc8 kV8 dc8 pm8 cd8 ct8 : Value}
    {f9 : Addr} {od9 an9 : Option Addr} {sl9 : Array (Option Value)} {oc9 kV9 dc9 pm9 cd9 ct9 : Value}
    {f10 : Addr} {od10 an10 : Option Addr} {sl10 : Array (Option Value)} {oc10 kV10 dc10 pm10 cd10 ct10 : Value}
    {f11 : Addr} {od11 an11 : Option Addr} {sl11 : Array (Option Value)} {oc11 kV11 dc11 pm11 cd11 ct11 : Value}
    {f12 : Addr} {od12 an12 : Option Addr} {sl12 : Array (Option Value)} {oc12 kV12 dc12 pm12 cd12 ct12 : Value}
    {f13 : Addr} {od13 an13 : Option Addr} {sl13 : Array (Option Value)} {oc13 kV13 dc13 pm13 cd13 ct13 : Value}
    {f14 : Addr} {od14 an14 : Option Addr} {sl14 : Array (Option Value)} {oc14 kV14 dc14 pm14 cd14 ct14 : Value}
    {f15 : Addr} {od15 an15 : Option Addr} {sl15 : Array (Option Value)} {oc15 kV15 dc15 pm15 cd15 ct15 : Value}
    {f16 : Addr} {od16 an16 : Option Addr} {sl16 : Array (Option Value)} {oc16 kV16 dc16 pm16 cd16 ct16 : Value}
    {f17 : Addr} {od17 an17 : Option Addr} {sl17 : Array (Option Value)} {oc17 kV17 dc17 pm17 cd17 ct17 : Value}
    {f18 : Addr} {od18 an18 : Option Addr} {sl18 : Array (Option Value)} {oc18 kV18 dc18 pm18 cd18 ct18 : Value}
    {f19 : Addr} {od19 an19 : Option Addr} {sl19 : Array (Option Value)} {oc19 kV19 dc19 pm19 cd19 ct19 : Value}
    {f20 : Addr} {od20 an20 : Option Addr} {sl20 : Array (Option Value)} {oc20 kV20 dc20 pm20 cd20 ct20 : Value}
    {f21 : Addr} {od21 an21 : Option Addr} {sl21 : Array (Option Value)} {oc21 kV21 dc21 pm21 cd21 ct21 : Value}
    (aT_COLUMNS : PySem.W.nsIn K mainGlobals "COLUMNS" = some (some (.ref t_COLUMNS)))
    (lT_COLUMNS : K.lookup t_COLUMNS = some ⟨.type "tuple", dT_COLUMNS, .seq #[.ref t_COLUMNS_0, .ref t_COLUMNS_1, .ref t_COLUMNS_2, .ref t_COLUMNS_3] nT_COLUMNS, sT_COLUMNS⟩)
    (lT_COLUMNS_0 : K.lookup t_COLUMNS_0 = some ⟨.type "tuple", dT_COLUMNS_0, .seq #[.int 0 u_COLUMNS_0_0, .int 4 u_COLUMNS_0_1, .int 8 u_COLUMNS_0_2, .int 12 u_COLUMNS_0_3] nT_COLUMNS_0, sT_COLUMNS_0⟩)
    (lT_COLUMNS_1 : K.lookup t_COLUMNS_1 = some ⟨.type "tuple", dT_COLUMNS_1, .seq #[.int 1 u_COLUMNS_1_0, .int 5 u_COLUMNS_1_1, .int 9 u_COLUMNS_1_2, .int 13 u_COLUMNS_1_3] nT_COLUMNS_1, sT_COLUMNS_1⟩)
    (lT_COLUMNS_2 : K.lookup t_COLUMNS_2 = some ⟨.type "tuple", dT_COLUMNS_2, .seq #[.int 2 u_COLUMNS_2_0, .int 6 u_COLUMNS_2_1, .int 10 u_COLUMNS_2_2, .int 14 u_COLUMNS_2_3] nT_COLUMNS_2, sT_COLUMNS_2⟩)
    (lT_COLUMNS_3 : K.lookup t_COLUMNS_3 = some ⟨.type "tuple", dT_COLUMNS_3, .seq #[.int 3 u_COLUMNS_3_0, .int 7 u_COLUMNS_3_1, .int 11 u_COLUMNS_3_2, .int 15 u_COLUMNS_3_3] nT_COLUMNS_3, sT_COLUMNS_3⟩)
    (aT_DIAGONALS : PySem.W.nsIn K mainGlobals "DIAGONALS" = some (some (.ref t_DIAGONALS)))
    (lT_DIAGONALS : K.lookup t_DIAGONALS = some ⟨.type "tuple", dT_DIAGONALS, .seq #[.ref t_DIAGONALS_0, .ref t_DIAGONALS_1, .ref t_DIAGONALS_2, .ref t_DIAGONALS_3] nT_DIAGONALS, sT_DIAGONALS⟩)
    (lT_DIAGONALS_0 : K.lookup t_DIAGONALS_0 = some ⟨.type "tuple", dT_DIAGONALS_0, .seq #[.int 0 u_DIAGONALS_0_0, .int 5 u_DIAGONALS_0_1, .int 10 u_DIAGONALS_0_2, .int 15 u_DIAGONALS_0_3] nT_DIAGONALS_0, sT_DIAGONALS_0⟩)
    (lT_DIAGONALS_1 : K.lookup t_DIAGONALS_1 = some ⟨.type "tuple", dT_DIAGONALS_1, .seq #[.int 1 u_DIAGONALS_1_0, .int 6 u_DIAGONALS_1_1, .int 11 u_DIAGONALS_1_2, .int 12 u_DIAGONALS_1_3] nT_DIAGONALS_1, sT_DIAGONALS_1⟩)
    (lT_DIAGONALS_2 : K.lookup t_DIAGONALS_2 = some ⟨.type "tuple", dT_DIAGONALS_2, .seq #[.int 2 u_DIAGONALS_2_0, .int 7 u_DIAGONALS_2_1, .int 8 u_DIAGONALS_2_2, .int 13 u_DIAGONALS_2_3] nT_DIAGONALS_2, sT_DIAGONALS_2⟩)
    (lT_DIAGONALS_3 : K.lookup t_DIAGONALS_3 = some ⟨.type "tuple", dT_DIAGONALS_3, .seq #[.int 3 u_DIAGONALS_3_0, .int 4 u_DIAGONALS_3_1, .int 9 u_DIAGONALS_3_2, .int 14 u_DIAGONALS_3_3] nT_DIAGONALS_3, sT_DIAGONALS_3⟩)
    (aI_MASK : PySem.W.nsIn K mainGlobals "MASK" = some (some (.int 4294967295 uI_MASK)))
    (a0 : PySem.W.nsIn K mainGlobals "_law_source" = some (some (.ref f0)))
    (l0 : K.lookup f0 = some ⟨oc0, od0, .func (PySem.W.fnOf "_law_source" "_law_source" (defArgs st_law_source) (defBody st_law_source) (defScope st_law_source) .none kV0 dc0 pm0 an0 cd0 ct0), sl0⟩)
    (c0 : PySem.W.codeIn K cd0 "_law_source" = true)
    (k0 : PySem.W.keepIn K (.ref f0) = true)
    (a1 : PySem.W.nsIn K mainGlobals "_law_any" = some (some (.ref f1)))
    (l1 : K.lookup f1 = some ⟨oc1, od1, .func (PySem.W.fnOf "_law_any" "_law_any" (defArgs st_law_any) (defBody st_law_any) (defScope st_law_any) .none kV1 dc1 pm1 an1 cd1 ct1), sl1⟩)
    (c1 : PySem.W.codeIn K cd1 "_law_any" = true)
    (k1 : PySem.W.keepIn K (.ref f1) = true)
    (a2 : PySem.W.nsIn K mainGlobals "_law_word" = some (some (.ref f2)))
    (l2 : K.lookup f2 = some ⟨oc2, od2, .func (PySem.W.fnOf "_law_word" "_law_word" (defArgs st_law_word) (defBody st_law_word) (defScope st_law_word) .none kV2 dc2 pm2 an2 cd2 ct2), sl2⟩)
    (c2 : PySem.W.codeIn K cd2 "_law_word" = true)
    (k2 : PySem.W.keepIn K (.ref f2) = true)
    (a3 : PySem.W.nsIn K mainGlobals "_law_places" = some (some (.ref f3)))
    (l3 : K.lookup f3 = some ⟨oc3, od3, .func (PySem.W.fnOf "_law_places" "_law_places" (defArgs st_law_places) (defBody st_law_places) (defScope st_law_places) .none kV3 dc3 pm3 an3 cd3 ct3), sl3⟩)
    (c3 : PySem.W.codeIn K cd3 "_law_places" = true)
    (k3 : PySem.W.keepIn K (.ref f3) = true)
    (a4 : PySem.W.nsIn K mainGlobals "_law_quarter" = some (some (.ref f4)))
    (l4 : K.lookup f4 = some ⟨oc4, od4, .func (PySem.W.fnOf "_law_quarter" "_law_quarter" (defArgs st_law_quarter) (defBody st_law_quarter) (defScope st_law_quarter) .none kV4 dc4 pm4 an4 cd4 ct4), sl4⟩)
    (c4 : PySem.W.codeIn K cd4 "_law_quarter" = true)
    (k4 : PySem.W.keepIn K (.ref f4) = true)
    (a5 : PySem.W.nsIn K mainGlobals "quarter" = some (some (.ref f5)))
    (l5 : K.lookup f5 = some ⟨oc5, od5, .func (PySem.W.fnOf "quarter" "quarter" (defArgs st_quarter) (defBody st_quarter) (defScope st_quarter) .none kV5 dc5 pm5 an5 cd5 ct5), sl5⟩)
    (c5 : PySem.W.codeIn K cd5 "quarter" = true)
    (k5 : PySem.W.keepIn K (.ref f5) = true)
    (a6 : PySem.W.nsIn K mainGlobals "unquarter" = some (some (.ref f6)))
    (l6 : K.lookup f6 = some ⟨oc6, od6, .func (PySem.W.fnOf "unquarter" "unquarter" (defArgs st_unquarter) (defBody st_unquarter) (defScope st_unquarter) .none kV6 dc6 pm6 an6 cd6 ct6), sl6⟩)
    (c6 : PySem.W.codeIn K cd6 "unquarter" = true)
    (k6 : PySem.W.keepIn K (.ref f6) = true)
    (a7 : PySem.W.nsIn K mainGlobals "_turn" = some (some (.ref f7)))
    (l7 : K.lookup f7 = some ⟨oc7, od7, .func (PySem.W.fnOf "_turn" "_turn" (defArgs st_turn) (defBody st_turn) (defScope st_turn) .none kV7 dc7 pm7 an7 cd7 ct7), sl7⟩)
    (c7 : PySem.W.codeIn K cd7 "_turn" = true)
    (k7 : PySem.W.keepIn K (.ref f7) = true)
    (a8 : PySem.W.nsIn K mainGlobals "quarter_at" = some (some (.ref f8)))
    (l8 : K.lookup f8 = some ⟨oc8, od8, .func (PySem.W.fnOf "quarter_at" "quarter_at" (defArgs st_quarter_at) (defBody st_quarter_at) (defScope st_quarter_at) .none kV8 dc8 pm8 an8 cd8 ct8), sl8⟩)
    (c8 : PySem.W.codeIn K cd8 "quarter_at" = true)
    (k8 : PySem.W.keepIn K (.ref f8) = true)
    (a9 : PySem.W.nsIn K mainGlobals "_law_is_row" = some (some (.ref f9)))
    (l9 : K.lookup f9 = some ⟨oc9, od9, .func (PySem.W.fnOf "_law_is_row" "_law_is_row" (defArgs st_law_is_row) (defBody st_law_is_row) (defScope st_law_is_row) .none kV9 dc9 pm9 an9 cd9 ct9), sl9⟩)
    (c9 : PySem.W.codeIn K cd9 "_law_is_row" = true)
    (k9 : PySem.W.keepIn K (.ref f9) = true)
    (a10 : PySem.W.nsIn K mainGlobals "_law_quarters_right" = some (some (.ref f10)))
    (l10 : K.lookup f10 = some ⟨oc10, od10, .func (PySem.W.fnOf "_law_quarters_right" "_law_quarters_right" (defArgs st_law_quarters_right) (defBody st_law_quarters_right) (defScope st_law_quarters_right) .none kV10 dc10 pm10 an10 cd10 ct10), sl10⟩)
    (c10 : PySem.W.codeIn K cd10 "_law_quarters_right" = true)
    (k10 : PySem.W.keepIn K (.ref f10) = true)
    (a11 : PySem.W.nsIn K mainGlobals "_law_of" = some (some (.ref f11)))
    (l11 : K.lookup f11 = some ⟨oc11, od11, .func (PySem.W.fnOf "_law_of" "_law_of" (defArgs st_law_of) (defBody st_law_of) (defScope st_law_of) .none kV11 dc11 pm11 an11 cd11 ct11), sl11⟩)
    (c11 : PySem.W.codeIn K cd11 "_law_of" = true)
    (k11 : PySem.W.keepIn K (.ref f11) = true)
    (a12 : PySem.W.nsIn K mainGlobals "_law_bent" = some (some (.ref f12)))
    (l12 : K.lookup f12 = some ⟨oc12, od12, .func (PySem.W.fnOf "_law_bent" "_law_bent" (defArgs st_law_bent) (defBody st_law_bent) (defScope st_law_bent) .none kV12 dc12 pm12 an12 cd12 ct12), sl12⟩)
    (c12 : PySem.W.codeIn K cd12 "_law_bent" = true)
    (k12 : PySem.W.keepIn K (.ref f12) = true)
    (a13 : PySem.W.nsIn K mainGlobals "is_integer" = some (some (.ref f13)))
    (l13 : K.lookup f13 = some ⟨oc13, od13, .func (PySem.W.fnOf "is_integer" "is_integer" (defArgs st_is_integer) (defBody st_is_integer) (defScope st_is_integer) .none kV13 dc13 pm13 an13 cd13 ct13), sl13⟩)
    (c13 : PySem.W.codeIn K cd13 "is_integer" = true)
    (k13 : PySem.W.keepIn K (.ref f13) = true)
    (a14 : PySem.W.nsIn K mainGlobals "is_below" = some (some (.ref f14)))
    (l14 : K.lookup f14 = some ⟨oc14, od14, .func (PySem.W.fnOf "is_below" "is_below" (defArgs st_is_below) (defBody st_is_below) (defScope st_is_below) .none kV14 dc14 pm14 an14 cd14 ct14), sl14⟩)
    (c14 : PySem.W.codeIn K cd14 "is_below" = true)
    (k14 : PySem.W.keepIn K (.ref f14) = true)
    (a15 : PySem.W.nsIn K mainGlobals "is_state" = some (some (.ref f15)))
    (l15 : K.lookup f15 = some ⟨oc15, od15, .func (PySem.W.fnOf "is_state" "is_state" (defArgs st_is_state) (defBody st_is_state) (defScope st_is_state) .none kV15 dc15 pm15 an15 cd15 ct15), sl15⟩)
    (c15 : PySem.W.codeIn K cd15 "is_state" = true)
    (k15 : PySem.W.keepIn K (.ref f15) = true)
    (a16 : PySem.W.nsIn K mainGlobals "wrong_place" = some (some (.ref f16)))
    (l16 : K.lookup f16 = some ⟨oc16, od16, .func (PySem.W.fnOf "wrong_place" "wrong_place" (defArgs st_wrong_place) (defBody st_wrong_place) (defScope st_wrong_place) .none kV16 dc16 pm16 an16 cd16 ct16), sl16⟩)
    (c16 : PySem.W.codeIn K cd16 "wrong_place" = true)
    (k16 : PySem.W.keepIn K (.ref f16) = true)
    (a17 : PySem.W.nsIn K mainGlobals "is_octets" = some (some (.ref f17)))
    (l17 : K.lookup f17 = some ⟨oc17, od17, .func (PySem.W.fnOf "is_octets" "is_octets" (defArgs st_is_octets) (defBody st_is_octets) (defScope st_is_octets) .none kV17 dc17 pm17 an17 cd17 ct17), sl17⟩)
    (c17 : PySem.W.codeIn K cd17 "is_octets" = true)
    (k17 : PySem.W.keepIn K (.ref f17) = true)
    (a18 : PySem.W.nsIn K mainGlobals "is_cipher_key" = some (some (.ref f18)))
    (l18 : K.lookup f18 = some ⟨oc18, od18, .func (PySem.W.fnOf "is_cipher_key" "is_cipher_key" (defArgs st_is_cipher_key) (defBody st_is_cipher_key) (defScope st_is_cipher_key) .none kV18 dc18 pm18 an18 cd18 ct18), sl18⟩)
    (c18 : PySem.W.codeIn K cd18 "is_cipher_key" = true)
    (k18 : PySem.W.keepIn K (.ref f18) = true)
    (a19 : PySem.W.nsIn K mainGlobals "is_nonce" = some (some (.ref f19)))
    (l19 : K.lookup f19 = some ⟨oc19, od19, .func (PySem.W.fnOf "is_nonce" "is_nonce" (defArgs st_is_nonce) (defBody st_is_nonce) (defScope st_is_nonce) .none kV19 dc19 pm19 an19 cd19 ct19), sl19⟩)
    (c19 : PySem.W.codeIn K cd19 "is_nonce" = true)
    (k19 : PySem.W.keepIn K (.ref f19) = true)
    (a20 : PySem.W.nsIn K mainGlobals "_law_kinds_right" = some (some (.ref f20)))
    (l20 : K.lookup f20 = some ⟨oc20, od20, .func (PySem.W.fnOf "_law_kinds_right" "_law_kinds_right" (defArgs st_law_kinds_right) (defBody st_law_kinds_right) (defScope st_law_kinds_right) .none kV20 dc20 pm20 an20 cd20 ct20), sl20⟩)
    (c20 : PySem.W.codeIn K cd20 "_law_kinds_right" = true)
    (k20 : PySem.W.keepIn K (.ref f20) = true)
    (a21 : PySem.W.nsIn K mainGlobals "law" = some (some (.ref f21)))
    (l21 : K.lookup f21 = some ⟨oc21, od21, .func (PySem.W.fnOf "law" "law" (defArgs st_law) (defBody st_law) (defScope st_law) .none kV21 dc21 pm21 an21 cd21 ct21), sl21⟩)
    (c21 : PySem.W.codeIn K cd21 "law" = true)
    (k21 : PySem.W.keepIn K (.ref f21) = true)
    (z_isinstance : PySem.W.nsIn K mainGlobals "isinstance" = some none)
    (z_int : PySem.W.nsIn K mainGlobals "int" = some none)
    (z_bool : PySem.W.nsIn K mainGlobals "bool" = some none)
    (z_enumerate : PySem.W.nsIn K mainGlobals "enumerate" = some none)
    (z_len : PySem.W.nsIn K mainGlobals "len" = some none)
    (z_tuple : PySem.W.nsIn K mainGlobals "tuple" = some none)
    (z_all : PySem.W.nsIn K mainGlobals "all" = some none)
    (z_list : PySem.W.nsIn K mainGlobals "list" = some none)
    (z_abs : PySem.W.nsIn K mainGlobals "abs" = some none)
    (z_range : PySem.W.nsIn K mainGlobals "range" = some none)
    (z_repr : PySem.W.nsIn K mainGlobals "repr" = some none) :
    ∃ fd : FuncData, (∀ (s : Shared) (v : Value), BindsTo s fd ⟨[v], []⟩ [("script", v)]) ∧ ∀ base : Heap, K.In base → base.Ns mainGlobals mg → FA P w K mg base 7 fa fd ["script"] spLaw := all_mz ⟨K, mkC [], mkT []⟩ XK Gn hfa aT_COLUMNS lT_COLUMNS lT_COLUMNS_0 lT_COLUMNS_1 lT_COLUMNS_2 lT_COLUMNS_3 aT_DIAGONALS lT_DIAGONALS lT_DIAGONALS_0 lT_DIAGONALS_1 lT_DIAGONALS_2 lT_DIAGONALS_3 aI_MASK a0 l0 c0 k0 a1 l1 c1 k1 a2 l2 c2 k2 a3 l3 c3 k3 a4 l4 c4 k4 a5 l5 c5 k5 a6 l6 c6 k6 a7 l7 c7 k7 a8 l8 c8 k8 a9 l9 c9 k9 a10 l10 c10 k10 a11 l11 c11 k11 a12 l12 c12 k12 a13 l13 c13 k13 a14 l14 c14 k14 a15 l15 c15 k15 a16 l16 c16 k16 a17 l17 c17 k17 a18 l18 c18 k18 a19 l19 c19 k19 a20 l20 c20 k20 a21 l21 c21 k21 z_isinstance z_int z_bool z_enumerate z_len z_tuple z_all z_list z_abs z_range z_repr
end K15
open PySem PySem.W PyProof.Rows in
set_option maxRecDepth 100000 in
set_option maxHeartbeats 0 in
theorem PySem.Challenge.cw_putinonce_k15_quarters_and_states_holds : PySem.Challenge.rw_putinonce_k15_quarters_and_states.Holds := by
  w_on; o_law; k_head; (case hw => w_witness2)
  k_fill
  refine HA.walk_A (k := 7) (x := "script") (l := PySem.Challenge.rw_putinonce_k15_quarters_and_states) rfl rfl ⟨rfl, by decide, by decide⟩ (fun w h Y => PySem.W.kIn_of Y) ?F
  case F =>
    intro w mg fa h KX G hmg
    refine' K15.all_mk KX G hmg ?aT_COLUMNS ?lT_COLUMNS ?lT_COLUMNS_0 ?lT_COLUMNS_1 ?lT_COLUMNS_2 ?lT_COLUMNS_3 ?aT_DIAGONALS ?lT_DIAGONALS ?lT_DIAGONALS_0 ?lT_DIAGONALS_1 ?lT_DIAGONALS_2 ?lT_DIAGONALS_3 ?aI_MASK ?a0 ?l0 ?c0 ?k0 ?a1 ?l1 ?c1 ?k1 ?a2 ?l2 ?c2 ?k2 ?a3 ?l3 ?c3 ?k3 ?a4 ?l4 ?c4 ?k4 ?a5 ?l5 ?c5 ?k5 ?a6 ?l6 ?c6 ?k6 ?a7 ?l7 ?c7 ?k7 ?a8 ?l8 ?c8 ?k8 ?a9 ?l9 ?c9 ?k9 ?a10 ?l10 ?c10 ?k10 ?a11 ?l11 ?c11 ?k11 ?a12 ?l12 ?c12 ?k12 ?a13 ?l13 ?c13 ?k13 ?a14 ?l14 ?c14 ?k14 ?a15 ?l15 ?c15 ?k15 ?a16 ?l16 ?c16 ?k16 ?a17 ?l17 ?c17 ?k17 ?a18 ?l18 ?c18 ?k18 ?a19 ?l19 ?c19 ?k19 ?a20 ?l20 ?c20 ?k20 ?a21 ?l21 ?c21 ?k21 ?z_isinstance ?z_int ?z_bool ?z_enumerate ?z_len ?z_tuple ?z_all ?z_list ?z_abs ?z_range ?z_repr
    (case aT_COLUMNS => k_is)
    (case lT_COLUMNS => k_is)
    (case lT_COLUMNS_0 => k_is)
    (case lT_COLUMNS_1 => k_is)
    (case lT_COLUMNS_2 => k_is)
    (case lT_COLUMNS_3 => k_is)
    (case aT_DIAGONALS => k_is)
    (case lT_DIAGONALS => k_is)
    (case lT_DIAGONALS_0 => k_is)
    (case lT_DIAGONALS_1 => k_is)
    (case lT_DIAGONALS_2 => k_is)
    (case lT_DIAGONALS_3 => k_is)
    (case aI_MASK => k_is)
    (case a0 => k_is)
    (case l0 => k_is)
    (case c0 => k_is)
    (case k0 => k_is)
    (case a1 => k_is)
    (case l1 => k_is)
    (case c1 => k_is)
    (case k1 => k_is)
    (case a2 => k_is)
    (case l2 => k_is)
    (case c2 => k_is)
    (case k2 => k_is)
    (case a3 => k_is)
    (case l3 => k_is)
    (case c3 => k_is)
    (case k3 => k_is)
    (case a4 => k_is)
    (case l4 => k_is)
    (case c4 => k_is)
    (case k4 => k_is)
    (case a5 => k_is)
    (case l5 => k_is)
    (case c5 => k_is)
    (case k5 => k_is)
    (case a6 => k_is)
    (case l6 => k_is)
    (case c6 => k_is)
    (case k6 => k_is)
    (case a7 => k_is)
    (case l7 => k_is)
    (case c7 => k_is)
    (case k7 => k_is)
    (case a8 => k_is)
    (case l8 => k_is)
    (case c8 => k_is)
    (case k8 => k_is)
    (case a9 => k_is)
    (case l9 => k_is)
    (case c9 => k_is)
    (case k9 => k_is)
    (case a10 => k_is)
    (case l10 => k_is)
    (case c10 => k_is)
    (case k10 => k_is)
    (case a11 => k_is)
    (case l11 => k_is)
    (case c11 => k_is)
    (case k11 => k_is)
    (case a12 => k_is)
    (case l12 => k_is)
    (case c12 => k_is)
    (case k12 => k_is)
    (case a13 => k_is)
    (case l13 => k_is)
    (case c13 => k_is)
    (case k13 => k_is)
    (case a14 => k_is)
    (case l14 => k_is)
    (case c14 => k_is)
    (case k14 => k_is)
    (case a15 => k_is)
    (case l15 => k_is)
    (case c15 => k_is)
    (case k15 => k_is)
    (case a16 => k_is)
    (case l16 => k_is)
    (case c16 => k_is)
    (case k16 => k_is)
    (case a17 => k_is)
    (case l17 => k_is)
    (case c17 => k_is)
    (case k17 => k_is)
    (case a18 => k_is)
    (case l18 => k_is)
    (case c18 => k_is)
    (case k18 => k_is)
    (case a19 => k_is)
    (case l19 => k_is)
    (case c19 => k_is)
    (case k19 => k_is)
    (case a20 => k_is)
    (case l20 => k_is)
    (case c20 => k_is)
    (case k20 => k_is)
    (case a21 => k_is)
    (case l21 => k_is)
    (case c21 => k_is)
    (case k21 => k_is)
    (case z_isinstance => k_is)
    (case z_int => k_is)
    (case z_bool => k_is)
    (case z_enumerate => k_is)
    (case z_len => k_is)
    (case z_tuple => k_is)
    (case z_all => k_is)
    (case z_list => k_is)
    (case z_abs => k_is)
    (case z_range => k_is)
    (case z_repr => k_is)
